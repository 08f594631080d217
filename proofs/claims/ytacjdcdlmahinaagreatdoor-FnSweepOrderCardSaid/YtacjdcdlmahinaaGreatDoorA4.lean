/- Part 4. No condition. -/
import Derived.Test.YtacjdcdlmahinaaGreatDoorA3
import Derived.Conc.WgGenN2
import Derived.Conc.CrowdComm
import Derived.Conc.SmallLaws
import Derived.Conc.EventLaws
import Derived.Conc.LeavingOf
import Derived.Below
import Derived.ProofKit
import Derived.OpenShut
import Derived.OpenVars
import Derived.LaidMore
import Derived.Lay
import Derived.SevenTiedAt
import Derived.Lib.Bytealg
import Derived.Sort.AssemblyPlain
import Derived.Sort.LotD5
import Derived.Sort.Walk13a
set_option linter.all false
set_option maxHeartbeats 8000000
open Go.Proofs
open List renaming length → V, getD_eq_getElem?_getD → aj, range → bl, all_eq_true → bL
open Go renaming Value → ah, TypeId → av, Frame → bd, FuncId → aO, execOp → ar, Event → bg, undef → ai, Operand → aG, World → aB, Program → aR, Oper → aJ, Goroutine → au, stepG → aU
open Option renaming some → O, none → af
open Bool renaming true → W, false → ae
open Go.Region renaming wanted → bn
open Go.World renaming cell? → a9
open Go.MemAct renaming ofEvent → aV
open Nat renaming beq → aC, ble → bP
open Go.Op renaming equalIn → bx, bytesLess → bC
open Go.Proofs.Tryz renaming prog → ag, underlying22 → aZ
open Go.Conc renaming stepG_seq → aF, stepG_region_end → aD
namespace Go.AM
variable {n:Nat}{k:Int}{l b i j:Nat}{E:av}{L:Array Bool}{M:Mem}{N:Nat}{P:aR}{S:au->St->Prop}{c:Code}{g:au}{o:aJ}{s:St}{t:av}{v:ah}{w:aB}{x y:aG}{α:Type}{η:aG->D}{ι:Type}{U:List bq}{J:Fr}{all:List aJ}{lh:Array av}{cap:List C}{cR:List D}{cs:List bd}{ds:List (Nat×Bool)}{es:Nat->List C}{fo:aG}{gs:Array au}{ks:List Nat}{obs:List Prop}{off:Nat}{op:BinOp}{ops:Array aJ}{ps:List Prop}{rest:List aJ}{s':St}{tx:Bool}{ty:av}{val:Nat->Nat->ah}{vs:List ah}{w':aB}{xs:Array aG}{U' Us:List bq}{res:ι->D}{σ1:ι->List bq}
variable {CT:List (Nat×eP)}{K:List It}{Qf:Post}{T:List (Nat×TI)}{ie:TI}
section
open Go.Conc Go.RowKit Go.Conc.Lib Go.ConcR.Gen
open Go.ConcN (WgLive)
open Go.ConcN.Gen
open Go.ConcR (KK WgAt stA smA rd wr mk DC0)
set_option maxRecDepth 100000 in
def Lb{L:WgLink}(H:WgLib P L){R:aB->aB->Prop}{Wg:Nat}(b:∀{w w1},WgLive L.tWg Wg w->R w w1->WgLive L.tWg Wg w1){b₀:bd}{a₀:Act}{ops₀:Array aJ}{i₀:Nat}{rest₀:List Nat}{k₀:List Item}(g:au)(U:AnW L Wg (b₀.at a₀ (.inRegion ops₀ (i₀::rest₀)::k₀)) cs g)(w:aB)(a:WgLive L.tWg Wg w):
  ∃m,Goes P W R DC0 (HW1 P R L Wg (G (b₀.at (a₀.put ((ops₀[i₀]?).bind (·.dst)) (.tuple #[])) (.inRegion ops₀ rest₀::k₀)) cs) (AnW L Wg (b₀.at a₀ (.inRegion ops₀ (i₀::rest₀)::k₀)) cs)) m g w:=by
 lib_facts
 obtain⟨T,rfl,o,s⟩:=U;obtain⟨v0,v1,v2,v3,v4,v5,v6,v7,v8,v9,v10,v11,v12,E,Y,v15,Z,v17,aa,ab,v20,v21,v22,v23,N,v25,v26,v27,v28,AK,v30,v31,v32,v33,y,ak,v36,v37,z,v39,v40,C,v42,M,v44,v45,v46,v47,v48,v49,v50,v51,v52,Q,F,v55,v56,v57,v58,v59,v60,v61,v62,v63,J,v65,v66,v67,A,v69,v70,K,v72,B,X,x,D,v77,v78,v79,v80,v81,v82,v83,rfl⟩:=array84 T o;simp only[j9,lH,eF]at s;subst s;refine⟨30,?_⟩;unfold AnW;simp only[L7,body_wait,waitFn,iY]
 u_c stepG_block b a
 repeat (u_c aF b a)
 u_reg b a
 u_op b a
 u_op b a
 u_op b a
 u_call H.f_uLoad (nm_uLoad L) uLoadFn b a
 repeat (u_c aF b a)
 u_reg b a
 u_op b a
 u_c aD b a
 repeat (u_c aF b a)
 u_reg b a
 u_op b a
 u_op b a
 u_op b a
 refine Goes.stop (λq j=>?_);replace a:=b a j;clear j;refine⟨aK,λv hv d=>?_⟩;rcases oN v with rfl|u
 .replace d:WgAt L.tWg Wg q 0 0:=az;refine⟨_,stepG_load_atomic (v:=0) aK aK (by k_ne) aK H.f_loadU64 (x_loadU64_n L) (x_loadU64_b L) (x_loadU64_x L) .u64 (x_loadU64_f L) aK d.cellSt,λ_=>⟨80,?_⟩,λh=>absurd aK h⟩;clear d
  walk_nrm
  u_op b a
  u_c aD b a
  u_c stepG_ret' b a
  u_leave1 H.f_uLoad b a
  u_op b a
  u_c aD b a
  repeat (u_c aF b a)
  u_reg b a
  u_op b a
  u_op b a
  u_op b a
  u_op b a
  u_c aD b a
  repeat (u_c aF b a)
  u_reg b a
  u_op b a
  u_op b a
  u_op b a
  u_op b a
  u_c aD b a
  repeat (u_c aF b a)
  u_reg b a
  u_op b a
  u_op b a
  u_c aD b a
  repeat (u_c aF b a)
  u_cond W b a
  repeat (u_c aF b a)
  u_cond W b a
  repeat (u_c aF b a)
  u_reg b a
  refine Goes.stop (λf c=>?_);clear c;refine⟨aK,_,λw=>stepG_mark0 .enable ay aK aK (by k_ne) aK H.f_enable (x_enable_n L) (x_enable_b L) (x_enable_x L) (x_enable_f L),λw a=>⟨20,?_⟩⟩
  walk_nrm
  u_c aD b a
  repeat (u_c aF b a)
  u_reg b a
  u_op b a
  u_conv H.underlying_tWgP H.room_tWg (Go.ConcN.Gen.WgLive.cell0 a).choose_spec b a
  refine Goes.stop (λf c=>?_);clear c;refine⟨aK,_,λw=>stepG_markAt .acquire ay aK aK (by k_ne) aK H.f_acquire (x_acquire_n L) (x_acquire_b L) (x_acquire_x L) (x_acquire_f L) Q8,λw a=>⟨40,?_⟩⟩
  walk_nrm
  u_c aD b a
  repeat (u_c aF b a)
  u_reg b a
  u_op b a
  u_op b a
  u_op b a
  u_op b a
  u_op b a
  u_op b a
  u_op b a
  u_op b a
  u_skip b a
  u_skip b a
  u_op b a
  u_c aD b a
  repeat (u_c aF b a)
  u_cond ae b a
  u_c stepG_skip b a
  u_c stepG_ret' b a
  u_leave0 H.f_wait b a
  grind[Goes.stop]
 obtain⟨S,l⟩:∃S:Int,(v:Int)*KK=S:=⟨_,rfl⟩;have a1:S / 4294967296=(v:Int):=Rv
 have b1:bits .and .u64 S 2147483648=0:=by rw[<-l];have:=Go.ConcN.st_flag v 0 aq aq;simpa[KK]using this
 have b2:bits .and .u64 S 2147483647=0:=by rw[<-l];have:=Go.ConcN.st_waiters v 0 aq aq;simpa[KK]using this
 have c1:IntKind.i32.wrap (v:Int)=(v:Int):=by grind[IntKind.wrap_i32]
 have w1:IntKind.u64.wrap (S+1)=S+1:=by rw[IntKind.wrap_u64,<-l];simp only[KK];omega
 have q3:decide ((v:Int)<0)=ae:=ot aq;have q4:decide (0<(v:Int))=W:=fQ aq;have q5:((v:Int)==0)=ae:=az;have q6:decide ((v:Int)=0)=ae:=ot aq;rw[l]at d;refine⟨_,stepG_load_atomic (v:=S) aK aK (by k_ne) aK H.f_loadU64 (x_loadU64_n L) (x_loadU64_b L) (x_loadU64_x L) .u64 (x_loadU64_f L) aK d.cellSt,λh0=>absurd h0 aq,λ_=>⟨80,?_⟩⟩;clear d
 walk_nrm
 u_op b a
 u_c aD b a
 u_c stepG_ret' b a
 u_leave1 H.f_uLoad b a
 u_op b a
 u_c aD b a
 repeat (u_c aF b a)
 u_reg b a
 u_op b a
 u_op b a
 u_op b a
 u_op b a
 u_c aD b a
 repeat (u_c aF b a)
 u_reg b a
 u_op b a
 u_op b a
 u_op b a
 u_op b a
 u_c aD b a
 repeat (u_c aF b a)
 u_reg b a
 u_op b a
 u_op b a
 u_c aD b a
 repeat (u_c aF b a)
 u_cnd ae b a
 u_c stepG_skip b a
 repeat (u_c aF b a)
 u_reg b a
 u_op b a
 u_op b a
 u_op b a
 u_op b a
 u_op b a
 u_op b a
 u_call H.f_uCas (nm_uCas L) uCasFn b a
 repeat (u_c aF b a)
 u_reg b a
 u_op b a
 u_c aD b a
 repeat (u_c aF b a)
 u_reg b a
 u_op b a
 u_op b a
 u_op b a
 u_op b a
 u_op b a
 refine Goes.stop (λf c=>?_);replace a:=b a c;clear c;refine⟨aK,λv' hv' d=>⟨λe=>?_,λe=>?_⟩⟩
 .subst e;rw[l]at d⊢;refine⟨_,(stepG_cas_hit (v:=S) (n:=S+1) aK aK (by k_ne) aK H.f_casU64 (x_casU64_n L) (x_casU64_b L) (x_casU64_x L) .u64 (x_casU64_f L) aK aK aK d.cellSt (d.thaw 0)).trans wK,90,?_⟩;replace a:WgLive L.tWg Wg (f.setCell (stA Wg) (.int .u64 (S+1))):=⟨_,_,d.setSt _⟩
  clear d
  walk_nrm
  u_op b a
  u_c aD b a
  u_c stepG_ret' b a
  u_leave1 H.f_uCas b a
  u_c aD b a
  repeat (u_c aF b a)
  u_cond W b a
  repeat (u_c aF b a)
  u_reg b a
  u_op b a
  u_op b a
  u_op b a
  u_op b a
  u_c aD b a
  repeat (u_c aF b a)
  u_cond W b a
  repeat (u_c aF b a)
  u_reg b a
  u_op b a
  u_op b a
  u_op b a
  u_conv H.underlying_tPU32 H.room_tU32 (Go.ConcN.Gen.WgLive.cell1 a).choose_spec b a
  refine Goes.stop (λf c=>?_);clear c;refine⟨aK,_,⟨Wg,1,af⟩,aK,λw=>stepG_markAt .write ay aK aK (by k_ne) aK H.f_raceWrite (x_raceWrite_n L) (x_raceWrite_b L) (x_raceWrite_x L) (x_raceWrite_f L) (ad:=⟨Wg,1,af⟩) (by simp[Act.eval]),λw a=>⟨60,?_⟩⟩
  walk_nrm
  u_c aD b a
  repeat (u_c aF b a)
  u_reg b a
  u_op b a
  u_c aD b a
  repeat (u_c aF b a)
  u_reg b a
  u_op b a
  u_op b a
  u_op b a
  u_op b a
  u_skip b a
  u_op b a
  u_c aD b a
  repeat (u_c aF b a)
  u_cond ae b a
  u_c stepG_skip b a
  repeat (u_c aF b a)
  u_reg b a
  u_op b a
  u_op b a
  u_op b a
  u_op b a
  refine Goes.stop (λp k=>?_);replace a:=b a k;clear k;refine⟨aK,aK,λ⟨st,d⟩=>stepG_semacquire_wait aK aK aK H.f_semacquire (x_semacquire_n L) (x_semacquire_b L) (x_semacquire_x L) (x_semacquire_f L) (by simp[Act.eval,smA]) d.cellSm,λr=>?_⟩;refine⟨_,(stepG_semacquire (n:=1) aK aK (by k_ne) aK H.f_semacquire (x_semacquire_n L) (x_semacquire_b L) (x_semacquire_x L) (x_semacquire_f L) (by simp[Act.eval,smA]) r.cellSm (by k_ne) (r.thaw 1)).trans wK,40,?_⟩;replace a:WgLive L.tWg Wg (p.setCell (smA Wg) (.int .u32 0)):=⟨_,_,r.setSm 0⟩
  clear r
  walk_nrm
  u_c aD b a
  repeat (u_c aF b a)
  u_reg b a
  u_op b a
  u_op b a
  u_op b a
  u_call H.f_uLoad (nm_uLoad L) uLoadFn b a
  repeat (u_c aF b a)
  u_reg b a
  u_op b a
  u_c aD b a
  repeat (u_c aF b a)
  u_reg b a
  u_op b a
  u_op b a
  u_op b a
  refine Goes.stop (λt i=>?_);replace a:=b a i;clear i;refine⟨aK,λd=>⟨_,stepG_load_atomic (v:=0) aK aK (by k_ne) aK H.f_loadU64 (x_loadU64_n L) (x_loadU64_b L) (x_loadU64_x L) .u64 (x_loadU64_f L) aK d.cellSt,40,?_⟩⟩;clear d
  walk_nrm
  u_op b a
  u_c aD b a
  u_c stepG_ret' b a
  u_leave1 H.f_uLoad b a
  u_op b a
  u_op b a
  u_c aD b a
  repeat (u_c aF b a)
  u_cond W b a
  repeat (u_c aF b a)
  u_reg b a
  refine Goes.stop (λf c=>?_);clear c;refine⟨aK,_,λw=>stepG_mark0 .enable ay aK aK (by k_ne) aK H.f_enable (x_enable_n L) (x_enable_b L) (x_enable_x L) (x_enable_f L),λw a=>⟨20,?_⟩⟩
  walk_nrm
  u_c aD b a
  repeat (u_c aF b a)
  u_reg b a
  u_op b a
  u_conv H.underlying_tWgP H.room_tWg (Go.ConcN.Gen.WgLive.cell0 a).choose_spec b a
  refine Goes.stop (λf c=>?_);clear c;refine⟨aK,_,λw=>stepG_markAt .acquire ay aK aK (by k_ne) aK H.f_acquire (x_acquire_n L) (x_acquire_b L) (x_acquire_x L) (x_acquire_f L) Q8,λw a=>⟨40,?_⟩⟩
  walk_nrm
  u_c aD b a
  repeat (u_c aF b a)
  u_reg b a
  u_op b a
  u_c aD b a
  repeat (u_c aF b a)
  u_cond ae b a
  u_c stepG_skip b a
  u_c stepG_ret' b a
  u_leave0 H.f_wait b a
  grind[Goes.stop]
 refine⟨_,stepG_cas_miss (v:=(v':Int)*KK) (old:=S) (n:=S+1) aK aK (by k_ne) aK H.f_casU64 (x_casU64_n L) (x_casU64_b L) (x_casU64_x L) .u64 (x_casU64_f L) aK aK aK d.cellSt (d.thaw 0) Rv,30,?_⟩;clear d
 walk_nrm
 u_op b a
 u_c aD b a
 u_c stepG_ret' b a
 u_leave1 H.f_uCas b a
 u_c aD b a
 repeat (u_c aF b a)
 u_cond ae b a
 u_c stepG_skip b a
 u_c stepG_inBlock b a
 u_c stepG_inLoop b a
 exact Goes.stop λ_ _=>⟨_,aK,by simp,by simp⟩
end
section
open Go.Conc Go.Conc.Lib
open Go.ConcN (WgLive)
open Go.ConcR (KK WgAt stA smA rd wr mk DC0 Payload)
def iu(ty:av)(Wg:Nat)(w w1:aB):Prop:=WgLive ty Wg w->WgLive ty Wg w1
def iu.refl{ty:av}{Wg:Nat}(w:aB):iu ty Wg w w:=id
def iu.trans{ty:av}{Wg:Nat}{a b c:aB}(h:iu ty Wg a b)(k:iu ty Wg b c):iu ty Wg a c:=λx=>k (h x)
def Dg(R:aB->aB->Prop)(Stop:au->aB->Prop)(g:au)(w:aB):Prop:=∀w1,R w w1->Stop g w1
def Goes.O0{P:aR}{main:Bool}{R:aB->aB->Prop}{D:aB->aB->Array bg->Prop}{Stop:au->aB->Prop}(hT:∀a b c,R a b->R b c->R a c):
  ∀{n:Nat} {g:au} {w:aB},Goes P main R D Stop n g w->Goes P main R D (Dg R Stop) n g w
 |0,g,w,h=>λw1 l w2 p=>h w2 (hT _ _ _ l p)
 |n+1,g,w,h=>by
  rcases h with h|⟨d,h⟩
  .exact .inl λw1 l w2 p=>h w2 (hT _ _ _ l p)
  refine .inr ⟨d,λw1 l=>?_⟩;have p:=h w1 l;cases j:aU P main g w1 with
  |go g' w' es =>
   rw[j,goes_go]at p;rw[goes_go];exact⟨p.1,Goes.O0 hT p.2⟩
  |_=>rw[j]at p;exact p.elim
structure qa(Wg:Nat)(F:St->Prop):Prop where
 rely:∀s s',F s->cK s s'->F s'
 heap:∀s,F s->∃U,aH U s
 C9:∀s,F s->¬s.own Wg/\(∀L∈s.β,Wg∉L.bs)/\∀o,s.M Wg o=af
section
variable {P:aR}{L:WgLink}{Wg:Nat}{F:St->Prop}
def Eb(ty:av)(Wg:Nat)(F:St->Prop)(s:St):Prop:=F s/\WgLive ty Wg s.w
def qa.aac(A:qa Wg F){s:St}(h:F s):jk s:=(A.heap s h).choose_spec.mem
def qa.set(A:qa Wg F){s:St}(h:F s)(a:Addr)(k:a.block=Wg)(v:ah):cK s {s with w:=s.w.setCell a v}:=by
 obtain⟨l,p,y⟩:=A.C9 s h;have hk:∀b,b≠Wg->(s.w.setCell a v).heap[b]?=s.w.heap[b]?:=λb hb=>by have:=(aside_setCell s.w a v).block b az;omega
 refine⟨Z,Z,Z,Nat.le_of_eq (aside_setCell s.w a v).size.symm,λb hb=>hk b az,λb o u j=>?_,(aside_setCell s.w a v).os,(aside_setCell s.w a v).tape,(aside_setCell s.w a v).output⟩;have E:b≠Wg:=az;show(s.w.setCell a v).cell? _=_;rw[mb (hk b E) o];exact A.aac h b o u j
def qa.next(A:qa Wg F){ty:av}{s i:St}(h:Eb ty Wg F s)(r:(Cx.ez P ty Wg).rely s i):Eb ty Wg F i:=⟨A.rely s i h.1 r.1,r.2 h.2⟩
def qa.ai9(A:qa Wg F){ty:av}{s:St}(h:Eb ty Wg F s):(Cx.ez P ty Wg).rely s s:=⟨cK.Bi (A.aac h.1),id⟩
def qa.goes(A:qa Wg F){ty:av}{S:au->St->Prop}{Stop:au->aB->Prop}(k:∀g s,Eb ty Wg F s->Dg (iu ty Wg) Stop g s.w->gd (Cx.ez P ty Wg) (Es Wg) S g s){n:Nat}{g:au}{s:St}(d:Eb ty Wg F s)(h:Goes P W (iu ty Wg) DC0 Stop n g s.w):gd (Cx.ez P ty Wg) (Es Wg) S g s:=by refine gd.goes (X:=Cx.ez P ty Wg) (R:=iu ty Wg) (D:=DC0) (Stop:=Dg (iu ty Wg) Stop) (Eb ty Wg F) (λs i hi f=>A.next hi f) (λs i _ f=>f.2) ?_ (λs hi=>A.ai9 hi) k n g s d (Goes.O0 (λ_ _ _ l p=>l.trans p) h);rintro s es hi w' ⟨rfl,rfl⟩;exact⟨Z,.inl (.dw (A.heap s hi.1).choose_spec)⟩
end
set_option maxRecDepth 100000 in
def La{P:aR}{L:WgLink}(H:WgLib P L){Wg:Nat}:Frame.enter P L.add #[.pointer (O ⟨Wg,0,af⟩),.int .i64 1] .normal=(base L.add).at ⟨#[.pointer (O ⟨Wg,0,af⟩),.int .i64 1,ai,ai,ai,ai,ai,ai,ai,ai,ai,ai,ai,ai,ai,ai,ai,ai,ai,ai,ai,ai,ai,ai,ai,ai,ai,ai,ai,ai,ai,ai,ai,ai,ai,ai,ai,ai,ai,ai,ai,ai,ai,ai,ai,ai,ai,ai,ai,ai,ai,ai,ai,ai,ai,ai,ai,ai,ai,ai,ai,ai,ai,ai,ai,ai,ai,ai,ai,ai,ai,ai,ai,ai,ai,ai,ai,ai,ai,ai,ai,ai,ai,ai,ai,ai,ai,ai,ai,ai,ai,ai,ai,ai,ai,ai,ai,ai,ai,ai,ai,ai,ai,ai,ai,ai,ai,ai,ai,ai,ai,ai,ai,ai,ai,ai,ai],[]⟩ [.code (Go.ConcR.Gen.body_add L)] :=
 (enter_at (c:=Go.ConcR.Gen.body_add L) _ H.f_add bw).trans bw
set_option maxRecDepth 100000 in
def Ih{P:aR}{L:WgLink}(H:WgLib P L){Wg:Nat}:Frame.enter P L.wait #[.pointer (O ⟨Wg,0,af⟩)] .normal=(base L.wait).at ⟨#[.pointer (O ⟨Wg,0,af⟩),ai,ai,ai,ai,ai,ai,ai,ai,ai,ai,ai,ai,ai,ai,ai,ai,ai,ai,ai,ai,ai,ai,ai,ai,ai,ai,ai,ai,ai,ai,ai,ai,ai,ai,ai,ai,ai,ai,ai,ai,ai,ai,ai,ai,ai,ai,ai,ai,ai,ai,ai,ai,ai,ai,ai,ai,ai,ai,ai,ai,ai,ai,ai,ai,ai,ai,ai,ai,ai,ai,ai,ai,ai,ai,ai,ai,ai,ai,ai,ai,ai,ai,ai],[]⟩ [.code (Go.ConcR.Gen.body_wait L)] :=
 (enter_at (c:=Go.ConcR.Gen.body_wait L) _ H.f_wait bw).trans bw
section
variable [Payload]{P:aR}{L:WgLink}{Y:zA}{F:St->Prop}{N n:Nat}{val:Nat->Nat->ah}
def aja(H:WgLib P L)(A:qa Y.Wg F){j:Nat}{Next:au->St->Prop}{b₀:bd}{a₀:Act}{ops₀:Array aJ}{i₀:Nat}{rest₀:List Nat}{k₀:List Item}{cs:List bd}(o:∀s,Eb L.tWg Y.Wg F s->gd (Cx.ez P L.tWg Y.Wg) (Es Y.Wg) (W8 P L.tWg Y N val j Next) (G (b₀.at (a₀.put ((ops₀[i₀]?).bind (·.dst)) (.tuple #[])) (.inRegion ops₀ rest₀::k₀)) cs) s){s:St}(d:Eb L.tWg Y.Wg F s):
  gd (Cx.ez P L.tWg Y.Wg) (Es Y.Wg) (Sz P L.tWg Y N val j Next) (G (Frame.enter P L.add #[.pointer (O ⟨Y.Wg,0,af⟩),.int .i64 1] .normal) (b₀.at a₀ (.inRegion ops₀ (i₀::rest₀)::k₀)::cs)) s:=by
 have z:∀g s,Eb L.tWg Y.Wg F s->GKe P (iu L.tWg Y.Wg) L Y.Wg (G (b₀.at (a₀.put ((ops₀[i₀]?).bind (·.dst)) (.tuple #[])) (.inRegion ops₀ rest₀::k₀)) cs) g s.w->gd (Cx.ez P L.tWg Y.Wg) (Es Y.Wg) (Sy P L.tWg Y N val j Next) g s:=by rintro g s d ⟨l,g',p,y⟩;refine⟨.leaf,l,g',p,λi f=>?_⟩;have a:=A.next d f;obtain⟨m,q⟩:=y i.w a.2;exact A.goes (λg s d h=>by obtain rfl:=h s.w (.refl _);grind) a q
 have k:∀g s,Eb L.tWg Y.Wg F s->Dg (iu L.tWg Y.Wg) (GA1 P (iu L.tWg Y.Wg) L Y.Wg (G (b₀.at (a₀.put ((ops₀[i₀]?).bind (·.dst)) (.tuple #[])) (.inRegion ops₀ rest₀::k₀)) cs)) g s.w->gd (Cx.ez P L.tWg Y.Wg) (Es Y.Wg) (abH P L.tWg Y N val j Next) g s:=by
  rintro g s d h;refine⟨.leaf,(h s.w (.refl _)).1,λi f v AK t=>?_⟩;have a:=A.next d f;obtain⟨g',l,m,q⟩:=(h i.w f.2).2 v AK t;have b:Eb L.tWg Y.Wg F {i with w:=i.w.setCell (stA Y.Wg) (.int .u64 ((v+1)*KK))}:=⟨A.rely _ _ a.1 (A.set a.1 _ rfl _),⟨_,_,t.setSt _⟩⟩;refine⟨g',l,A.goes (λg s d h=>?_) b q⟩
  rcases h s.w (.refl _)with h|h
  .obtain⟨l,g',ad,p,y,Q⟩:=h;refine .step l λi f=>⟨g',i,_,y i.w,.inr ⟨Z,ad,p,.inl Z⟩,?_⟩
   have a:=A.next d f;obtain⟨m,q⟩:=Q i.w a.2;exact A.goes (λg s d h=>z g s d (h s.w (.refl _))) a q
  grind
 have t:=Xy (P:=P) (L:=L) H (R:=iu L.tWg Y.Wg) (Wg:=Y.Wg) (λh r=>r h) (b₀:=b₀) (a₀:=a₀) (ops₀:=ops₀) (i₀:=i₀) (rest₀:=rest₀) (k₀:=k₀) (cs:=cs) s.w d.2;rw[La H];refine A.goes (λg s d h=>?_) d t;obtain⟨l,g',p,y⟩:=h s.w (.refl _);refine⟨.leaf,l,g',p,λi f=>?_⟩;have a:=A.next d f;obtain⟨m,q⟩:=y i.w a.2;exact A.goes k a q
section
variable (P L Y F)
def TW(B g:au)(s:St):Prop:=Eb L.tWg Y.Wg F s/\∃m,Goes P W (iu L.tWg Y.Wg) DC0 (λg _=>g=B) m g s.w
def Nx(c:bd)(cs:List bd)(g:au)(s:St):Prop:=Eb L.tWg Y.Wg F s/\∃m,Goes P W (iu L.tWg Y.Wg) DC0 (λg _=>AnW L Y.Wg c cs g) m g s.w
end
variable {b₀:bd}{a₀:Act}{ops₀:Array aJ}{i₀:Nat}{rest₀:List Nat}{k₀:List Item}{cs:List bd}
omit [Payload]in
def afe(H:WgLib P L)(A:qa Y.Wg F){T J:au->St->Prop}(K:∀g s,TW P L Y F (G (b₀.at (a₀.put ((ops₀[i₀]?).bind (·.dst)) (.tuple #[])) (.inRegion ops₀ rest₀::k₀)) cs) g s->T g s)(C:∀g s,Nx P L Y F (b₀.at a₀ (.inRegion ops₀ (i₀::rest₀)::k₀)) cs g s->J g s){g:au}{s:St}(h:Nx P L Y F (b₀.at a₀ (.inRegion ops₀ (i₀::rest₀)::k₀)) cs g s):
  gd (Cx.ez P L.tWg Y.Wg) (Es Y.Wg) (KQ P L.tWg Y T J) g s:=by
 generalize hc:b₀.at a₀ (.inRegion ops₀ (i₀::rest₀)::k₀)=c at *;generalize hgE:G (b₀.at (a₀.put ((ops₀[i₀]?).bind (·.dst)) (.tuple #[])) (.inRegion ops₀ rest₀::k₀)) cs=B at K;have aa:∀g s,Eb L.tWg Y.Wg F s->Dg (iu L.tWg Y.Wg) (aff P (iu L.tWg Y.Wg) L Y.Wg B) g s.w->gd (Cx.ez P L.tWg Y.Wg) (Es Y.Wg) (Sx P L.tWg Y T) g s:=by intro g s d h;obtain⟨l,g',p,y⟩:=h s.w (.refl _);exact⟨.leaf,l,g',p,λi f=>K _ _ ⟨A.next d f,y i.w (A.next d f).2⟩⟩
 have z:∀g s,Eb L.tWg Y.Wg F s->Dg (iu L.tWg Y.Wg) (HKe P (iu L.tWg Y.Wg) L Y.Wg B) g s.w->gd (Cx.ez P L.tWg Y.Wg) (Es Y.Wg) (W7 P L.tWg Y T) g s:=by intro g s d h;obtain⟨l,g',p,y⟩:=h s.w (.refl _);refine⟨.leaf,l,g',p,λi f=>?_⟩;obtain⟨m,q⟩:=y i.w (A.next d f).2;exact A.goes aa (A.next d f) q
 have gW4:∀g s,Eb L.tWg Y.Wg F s->Dg (iu L.tWg Y.Wg) (HW4 P (iu L.tWg Y.Wg) L Y.Wg B) g s.w->gd (Cx.ez P L.tWg Y.Wg) (Es Y.Wg) (abE P L.tWg Y T) g s:=by intro g s d h;refine⟨.leaf,(h s.w (.refl _)).1,λi f t=>?_⟩;obtain⟨g',l,m,q⟩:=(h i.w f.2).2 t;exact⟨g',l,A.goes z (A.next d f) q⟩
 have ak:∀g s,Eb L.tWg Y.Wg F s->Dg (iu L.tWg Y.Wg) (HW3 P (iu L.tWg Y.Wg) L Y.Wg B) g s.w->gd (Cx.ez P L.tWg Y.Wg) (Es Y.Wg) (Dd P L.tWg Y T) g s:=by intro g s d h;refine⟨.leaf,(h s.w (.refl _)).1,(h s.w (.refl _)).2.1,λi f=>⟨(h i.w f.2).2.2.1,λt=>?_⟩⟩;obtain⟨g',l,m,q⟩:=(h i.w f.2).2.2.2 t;exact⟨g',l,A.goes gW4 (s:={i with w:=i.w.setCell (smA Y.Wg) (.int .u32 0)}) ⟨A.rely _ _ (A.next d f).1 (A.set (A.next d f).1 _ rfl _),⟨_,_,t.setSm 0⟩⟩ q⟩
 have ab:∀g s,Eb L.tWg Y.Wg F s->Dg (iu L.tWg Y.Wg) (HWr P (iu L.tWg Y.Wg) L Y.Wg B) g s.w->gd (Cx.ez P L.tWg Y.Wg) (Es Y.Wg) (Dd P L.tWg Y T) g s:=by
  intro g s d h;obtain⟨l,g',ad,p,y,Q⟩:=h s.w (.refl _);refine .step l λi f=>⟨g',i,_,y i.w,.inr ⟨aK,ad,p,.inr aK⟩,?_⟩
  obtain⟨m,q⟩:=Q i.w (A.next d f).2;exact A.goes ak (A.next d f) q
 have Z:∀(v:Nat) g s,Eb L.tWg Y.Wg F s->Dg (iu L.tWg Y.Wg) (HW2 P (iu L.tWg Y.Wg) L Y.Wg B (AnW L Y.Wg c cs) v) g s.w->gd (Cx.ez P L.tWg Y.Wg) (Es Y.Wg) (abF P L.tWg Y T J v) g s:=by
  intro vs g s d h;refine⟨.leaf,(h s.w (.refl _)).1,λi f v AK t=>⟨λe=>?_,λe=>?_⟩⟩
  .obtain⟨g',l,m,q⟩:=((h i.w f.2).2 v AK t).1 e;exact⟨g',l,A.goes ab (s:={i with w:=i.w.setCell (stA Y.Wg) (.int .u64 (v*KK+1))}) ⟨A.rely _ _ (A.next d f).1 (A.set (A.next d f).1 _ rfl _),⟨_,_,t.setSt _⟩⟩ q⟩
  obtain⟨g',l,m,q⟩:=((h i.w f.2).2 v AK t).2 e;exact⟨g',l,C _ _ ⟨A.next d f,m,q⟩⟩
 obtain⟨d,m,q⟩:=h;refine A.goes (λg s d h=>?_) d q;obtain⟨m,t⟩:=Lb (P:=P) (L:=L) H (R:=iu L.tWg Y.Wg) (Wg:=Y.Wg) (λh r=>r h) (b₀:=b₀) (a₀:=a₀) (ops₀:=ops₀) (i₀:=i₀) (rest₀:=rest₀) (k₀:=k₀) (cs:=cs) g (by rw[hc];exact h s.w (.refl _)) s.w d.2;rw[hc,hgE]at t;refine A.goes (λg s d h=>?_) d t;refine⟨.leaf,(h s.w (.refl _)).1,λi f v AK t=>?_⟩;obtain⟨g',l,p,y⟩:=(h i.w f.2).2 v AK t;refine⟨g',l,λh0=>?_,λE=>?_⟩
 .obtain⟨m,q⟩:=p h0;exact A.goes z (A.next d f) q
 obtain⟨m,q⟩:=y E;exact A.goes (Z v) (A.next d f) q
omit [Payload]in
def afg(H:WgLib P L)(A:qa Y.Wg F){c:bd}{J:au->St->Prop}(C:∀g s,Nx P L Y F c cs g s->J g s){s:St}(d:Eb L.tWg Y.Wg F s):
  gd (Cx.ez P L.tWg Y.Wg) (Es Y.Wg) (abG P L.tWg Y J) (G (Frame.enter P L.wait #[.pointer (O ⟨Y.Wg,0,af⟩)] .normal) (c::cs)) s:=by have t:=Lc (P:=P) (L:=L) H (R:=iu L.tWg Y.Wg) (Wg:=Y.Wg) (λh r=>r h) (c:=c) (cs:=cs) s.w d.2;rw[Ih H];refine A.goes (λg s d h=>?_) d t;obtain⟨l,g',p,y⟩:=h s.w (.refl _);exact⟨.leaf,l,g',p,λi f=>C _ _ ⟨A.next d f,y i.w (A.next d f).2⟩⟩
end
end
section
open Go.Conc Go.RowKit Go.Conc.Lib Go.ConcR.Gen
open Go.ConcN (WgLive Has RW DWs AtR0 EvW)
open Go.ConcN.Gen
open Go.ConcR (KK WgAt stA smA rd wr mk DC0 Payload)
section
variable {R:aB->aB->Prop}{D:aB->aB->Array bg->Prop}{Stop A:au->aB->Prop}
def Goes.aaQ(b:∀w,R w w)(f:∀g w,Stop g w->∃g' e,aU P ae g w=.go g' w #[e])(d:∀n g w,A g w->¬Goes P ae R D Stop n g w):
  ∀(m n:Nat) (g:au) (w:aB),Goes P ae R DC0 A m g w->¬Goes P ae R D Stop n g w
 |0,n,g,w,h,k=>d n g w (h w (b w)) k
 |m+1,n,g,w,h,k=>by
  rcases h with h|⟨_,h⟩
  .grind
  have h1:=h w (b w);cases a:aU P ae g w with
  |go g' w' es =>
   rw[a,goes_go]at h1;obtain⟨⟨rfl,rfl⟩,h2⟩:=h1;have no:¬Stop g w':=λi=>by grind
   cases n with
   |zero=>exact no (k w' (b w'))
   |succ n =>
    rcases k with k|⟨_,k⟩
    .grind
    have k1:=k w' (b w');rw[a,goes_go]at k1;exact Goes.aaQ b f d m n g' w' h2 k1.2
  |_=>rw[a]at h1;exact h1.elim
def Goes.agJ(b:∀w,R w w)(i:∀g w,Stop g w->∃g' e,aU P ae g w=.go g' w #[e])(d:∀n g w,A g w->Goes P ae R D Stop n g w->∀w1,R w w1->Stop g w1):
  ∀(m n:Nat) (g:au) (w:aB),Goes P ae R DC0 A m g w->Goes P ae R D Stop n g w->Goes P ae R DC0 Stop m g w
 |0,n,g,w,h,k=>d n g w (h w (b w)) k
 |m+1,n,g,w,h,k=>by
  rcases h with h|⟨f,h⟩
  .exact .inl (d n g w (h w (b w)) k)
  refine .inr ⟨f,λw1 hr=>?_⟩;have h1:=h w1 hr;cases a:aU P ae g w1 with
  |go g' w' es =>
   rw[a,goes_go]at h1;rw[goes_go];obtain⟨⟨rfl,rfl⟩,h2⟩:=h1;have no:¬Stop g w':=λf=>by grind
   refine⟨⟨Z,Z⟩,?_⟩;cases n with
   |zero=>exact absurd (k w' hr) no
   |succ n =>
    rcases k with k|⟨_,k⟩
    .grind
    have k1:=k w' hr;rw[a,goes_go]at k1;exact Goes.agJ b i d m n g' w' h2 k1.2
  |_=>rw[a]at h1;exact h1.elim
end
variable [Payload]{L:WgLink}{Wg C Low x:Nat}{val:ah}{c:bd}
def StK(P:aR)(g:au)(_:aB):Prop:=∃a,∀w,aU P ae g w=.go a w #[mk .disable]
def StR(P:aR)(L:WgLink)(Wg C n Low x:Nat)(val:ah)(g:au)(w:aB):Prop :=
 (WgLive L.tWg Wg w/\Has C (x-1) val w)/\∃g2,(∀w,aU P ae g w=.go g2 w #[mk (.releaseMerge (stA Wg))])/\∀w,WgLive L.tWg Wg w/\Has C (x-1) val w->∃m,Goes P ae (RW L.tWg Wg C n Low (x-1)) DC0 (StK P) m g2 w
set_option maxRecDepth 100000 in
def VW(H:WgLib P L)(w:aB)(a:WgLive L.tWg Wg w/\Has C (x-1) val w):
  Goes P ae (RW L.tWg Wg C n Low (x-1)) DC0 (StR P L Wg C n Low x val) 23 (G ((baseD L.done).at ⟨#[.pointer (O ⟨Wg,0,af⟩),ai,ai,ai],[]⟩ [.code (body_done L)]) (c::cs)) w:=by
 lib_facts
 simp only[body_done,body_add,doneFn,addFn,iY]
 u_reg kn_rely a
 u_op kn_rely a
 u_in kn_rely a
 refine goes_call Z Z (by k_ne) Z H.f_add (nm_add L) Z ⟨by u_nil,?_⟩
 walk_nrmf addFn
 repeat (u_c aF kn_rely a)
 u_cond W kn_rely a
 repeat (u_c aF kn_rely a)
 u_reg kn_rely a
 u_op kn_rely a
 u_op kn_rely a
 u_c aD kn_rely a
 repeat (u_c aF kn_rely a)
 u_cond W kn_rely a
 u_reg kn_rely a
 u_op kn_rely a
 u_conv H.underlying_tWgP H.room_tWg (Go.ConcN.Gen.WgLive.cell0 a.1).choose_spec kn_rely a
 refine Goes.stop (λd b=>?_);replace a:=kn_rely a b;clear b;refine⟨a,_,λw=>stepG_markAt .releaseMerge ay Z Z (by k_ne) Z H.f_relMerge (x_relMerge_n L) (x_relMerge_b L) (x_relMerge_x L) (x_relMerge_f L) Q8,λw a=>⟨10,?_⟩⟩
 walk_nrm
 u_c aD kn_rely a
 repeat (u_c aF kn_rely a)
 u_reg kn_rely a
 exact Goes.stop λd b=>⟨_,λw=>stepG_mark0 .disable ay Z Z (by k_ne) Z H.f_disable (x_disable_n L) (x_disable_b L) (x_disable_x L) (x_disable_f L)⟩
def afw(H:WgLib P L){t:Nat}(d:c.mode=.returning)(hT:QuitsD P t 0 (G c cs))(w:aB)(b:WgLive L.tWg Wg w/\Has C (x-1) val w):
  Goes P ae (RW L.tWg Wg C n Low (x-1)) DC0 (AtR0 P L.tWg Wg C n Low x val) 23 (G ((baseD L.done).at ⟨#[.pointer (O ⟨Wg,0,af⟩),ai,ai,ai],[]⟩ [.code (body_done L)]) (c::cs)) w:=by
 have q:=doneN (Own:=λ_ _=>False) (Rd:=λ_ _=>False) (Low:=Low) (n:=n) H d hT w b;have f:∀g w,AtR0 P L.tWg Wg C n Low x val g w->∃g' e,aU P ae g w=.go g' w #[e]:=λg w h=>by obtain⟨_,_,g',s,_⟩:=h;grind
 have u:(mk (.releaseMerge (stA Wg)):bg)≠mk .disable:=AF;refine Goes.agJ (λw=>.refl w) f ?_ _ _ _ _ (VW H w b) q;intro i g w h k w1 hr;obtain⟨b,g2,s,r⟩:=h;have a:AtR0 P L.tWg Wg C n Low x val g w1∨∃l,Goes P ae (RW L.tWg Wg C n Low (x-1)) (DWs Wg (λ_ _=>False) (λ_ _=>False) C n x) (AtR0 P L.tWg Wg C n Low x val) l g2 w1:=by
  cases i with
  |zero=>exact .inl (k w1 hr)
  |succ i =>
   rcases k with k|⟨_,k⟩
   .grind
   grind[goes_go]
 rcases a with h|⟨l,h⟩
 .exact h
 exfalso;obtain⟨m,p⟩:=r w1 (kn_rely b hr);refine Goes.aaQ (λw=>.refl w) f ?_ _ _ _ _ p h;rintro j o w4 ⟨B,v⟩ k;have EB:∀w,¬AtR0 P L.tWg Wg C n Low x val o w:=λw y=>by obtain⟨_,_,E,z,_⟩:=y;grind
 cases j with
 |zero=>exact EB w4 (k w4 (.refl w4))
 |succ j =>
  rcases k with k|⟨_,k⟩
  .exact EB w4 (k w4 (.refl w4))
  have k1:=k w4 (.refl w4);rw[v w4,goes_go]at k1;have:=(k1.1.2 _ (Array.mem_singleton.2 Z)).2.1;exact this Z
end
section
open Go.Conc (G crowd rcase scase ph partners_nil offersAt crowd_send_room crowd_recv_buf crowd_recv_closed runT_crowd_go EvL listed)
def kr(z:ah)(cap:Nat)(q:List Int)(cl:Bool):ah->(Nat->Option Obj)->Prop:=λv a=>v=z/\∃r s t,z=.chan (O r)/\(∀n∈q,cd .i64 n)/\∀b,a b=if b=r then O (.chan cap (q.map (Value.int .i64)).toArray cl s t ae)else af
structure DQ(s:St)(l:Nat)(z:ah)(cap:Nat)(q:List Int)(cl:Bool)(L:Loc)(r sn rc:Nat):Prop where
 Ae:s.β[l]?=O L
 v:L.v=z
 m:z=.chan (O r)
 inr:∀n∈q,cd .i64 n
 heap:s.w.heap[r]?=O (.chan cap (q.map (Value.int .i64)).toArray cl sn rc ae)
 bs:∀b,b∈L.bs↔b=r
section
variable {z:ah}{cap:Nat}{q:List Int}{cl:Bool}
def kr.open(hh:aH U s)(hl:U[l]?=O (.cJ (kr z cap q cl))):∃L r sn rc,DQ s l z cap q cl L r sn rc:=by have hb:l<V s.β:=nh;obtain⟨ch,⟨h1,r,sn,rc,h2,a,e⟩,c,d,_⟩:=hh.box l _ _ hl (bD hb);exact⟨_,r,sn,rc,bD hb,h1,h2,a,c r _ az,λb=>by grind⟩
def DQ.kO{L:Loc}{r sn rc:Nat}(g:DQ s l z cap q cl L r sn rc)(hh:aH U s)(hl:U[l]?=O (.cJ (kr z cap q cl))){q':List Int}(a:Bool)(c d:Nat)(f:∀n∈q',cd .i64 n):
  aH (U.set l (.cJ (kr z cap q' a))) {s with w:=s.w.setChan r cap (q'.map (Value.int .i64)).toArray a c d ae}/\eO U s (U.set l (.cJ (kr z cap q' a))) {s with w:=s.w.setChan r cap (q'.map (Value.int .i64)).toArray a c d ae}:=by
 have h:r<s.w.heap.size:=(gN.1 g.heap).1;have j:=hh.kO (H':=kr z cap q' a) (L':=L) (w':=s.w.setChan r cap (q'.map (Value.int .i64)).toArray a c d ae) hl g.Ae Z (by simp[World.setChan]) (λb _ hb=>by show(s.w.heap.setIfInBounds r _)[b]?=_;rw[rL Rb]) (λb hb=>.inl hb)
  ⟨λb=>if b=r then O (.chan cap (q'.map (Value.int .i64)).toArray a c d ae)else af,⟨g.v,r,c,d,g.m,f,λ_=>rfl⟩,λb k hb=>by
   simp only[World.setChan]
   grind,λb=>by rw[g.bs];by_cases e:b=r<;>simp[e]⟩ Z Z Z
 have e1:s.β.set l L=s.β:=by
  apply tb;intro i;by_cases e:l=i
  .subst e;rw[js (cO.1 g.Ae).1,g.Ae]
  grind
 simp_all
end
def pW(c:Nat):MemAct->Prop
 |.send k _|.sendDone k _|.recv k _ _|.recvDone k _|.recvClosed k=>k=c
 |_=>False
def pW.aba{Sh:Go.Loc->Prop}{B c:Nat}{t u:Trace}(h:Go.Conc.Past Sh B t)(e:∀op∈u,op.g=0/\pW c op.act)(j:c<B):Go.Conc.Past Sh B (t++u):=by
 refine h.app0 (λop k6=>(e op k6).1) (λop k6 b hb=>?_) ?_ λop k6=>?_
 .have:=(e op k6).2;cases a:op.act<;>simp[a,pW,MemAct.touch?]at this hb
 .obtain⟨u⟩:=u;rw[Go.Conc.Deaf_append];have:∀(l:List MemOp) (d:Nat),(∀op∈l,pW c op.act)->l.foldl (Go.Conc.deafStep 0) d=d:=λl=>by
   induction l with
   |nil=>simp
   |cons x l i =>
    intro d hl;have f:=hl x iL;rw[jw,i _ λop k6=>hl op (lY _ k6)];cases a:x.act<;>simp[a,pW,Go.Conc.deafStep]at f⊢
  simp_all
 have:=(e op k6).2;cases a:op.act<;>simp[a,pW,MemAct.low]at this⊢<;>omega
def pW.u6{c:Nat}{t u:Trace}(h:qM t)(b:∀op∈u,op.g=0/\pW c op.act):qM (t++u) :=
 λa=>(h a).app λop k6 hx=>by have:=(b op k6).2;rw[hx]at this;exact this
section
def qS(P:aR)(N:Nat)(o:aJ)(J:Fr)(U:List bq)(x:D)(U':List bq):Prop :=
 ∀s a,c7 N U s J a->aH U s->∀(b:bd) (k:List Item) (cs:List bd) (ops:Array aJ) (i:Nat) (rest:List Nat),b.kind≠.early->ops[i]?=O o->bn o (yielded ops a.tmps)=W ->
  Hf P (G (b.aT a (.inRegion ops (i::rest)::k)) cs) s λg' s'=>∃v,g'=G (b.aT (a.put o.dst v) (.inRegion ops rest::k)) cs/\aH U' s'/\dE U s U' s'/\ey U' s' v x
def I.Fv{x:D}(h:qS P N o J U x U')(p:o.guard=af)(g:g7 N o.dst=W)(k:I (Cx.cx P) N Qf (.ops all rest::K) .normal (lU o.dst x J) U'):I (Cx.cx P) N Qf (.ops all (o::rest)::K) .normal J U:=by
 intro s a f hh b kk cs S idx hb jb hQ;cases idx with
 |nil=>exact jb.elim
 |cons j idx =>
 refine .AL (h s a f hh b kk cs _ j idx hb jb.1 (eE p)) ?_;rintro g' s' ⟨v,rfl,d,e,m⟩;refine k s' _ ?_ d b kk cs S idx hb jb.2 λc σ2 s2 a2 q i h2 st=>hQ c σ2 s2 a2 q i h2 (e.trans st);cases l:o.dst with
 |none=>exact f.mono e hh.len
 |some t=>exact(f.mono e hh.len).put (iB g t l) m
def abb{t:Trace}{q:Nat->Nat}(b:Go.Conc.Leavers P t gs q)(r:Nat)(send:Bool):partners (gs.setIfInBounds 0 ph) r send=[]:=by
 refine partners_nil λj g a=>?_;rcases oN j with rfl|c
 .rw[Array.getElem?_setIfInBounds]at a;split at a
  .split at a
   .cases a;rfl
   cases a
  omega
 rw[rL aq]at a;have:=(b.old j g c a).status;unfold offersAt;rcases this with h|h<;>rw[h]
def Fw{g2:au}{c:Nat}{T:au->St->Prop}(C:g.status=.running)(D:aH U s)(bX:∀(d:Nat) (gs:Array au) (sl:Option (Nat×Nat)),gs[0]?=O g->(∀r send,partners (gs.setIfInBounds 0 ph) r send=[]) ->
   ∃a ops,runT P (crowd gs (s.w.at d) sl) 0=(.next (crowd (gs.setIfInBounds 0 g2) a.w sl),ops)/\(∀op∈ops,op.g=0/\pW c op.act)/\aH U' a/\eO U {s with w:=s.w.at d} U' a/\T g2 a)(v:c<s.w.heap.size):Hf P g s T:=by
 refine Hf.aaY C λF gs d sl t q E o k p l h=>?_;obtain⟨a,ops,x,e,u,i,B⟩:=bX d gs sl o λr send=>abb k r send;have f:0<gs.size:=(gN.1 o).1;refine⟨_,g2,a,ops,x,u.mem,by simp[f],⟨λj y b m=>?_,λj b=>?_⟩,pW.aba (p.mono i.size) e (eb v i.size),(l.at d).step i,pW.u6 h e,B⟩
 .rw[rL aq]at m;rw[Go.Conc.Deaf_other t (g':=0) aq _ λop k6=>(e op k6).1];exact k.old j y b m
 rw[Go.Conc.Deaf_other t (g':=0) (by simp at b;omega) _ λop k6=>(e op k6).1];exact k.above j (by simpa using b)
def abc{b:bd}{a:Act}{k:List Item}{rest:List Nat}(hi:ops[i]?=O o){cc:Array CommCase}{d:CommShape}{j:Int}{ok:Bool}:
  (G (b.aT a (.inRegion ops (i::rest)::k)) cs).finishComm P cc d j v ok=G (b.aT (a.put o.dst (commResult cc d j v ok)) (.inRegion ops rest::k)) cs:=by have c:=kN (b:=b) (a:=a) (k:=k) ops i rest (commResult cc d j v ok);rw[hi]at c;simp only[oP]at c;simp only[Goroutine.finishComm,G,c]
def MZ{fn:aO}{pos:String}{c:Nat}{a b:MemAct}{f g:aO}{p q:String}(e:pW c a:=by rfl)(d:pW c b:=by rfl):∀op∈MemOp.ofEvents 0 fn pos #[]++#[{g:=0,fn:=f,pos:=p,act:=a},{g:=0,fn:=g,pos:=q,act:=b}],op.g=0/\pW c op.act:=by
 intro op k6;simp[MemOp.ofEvents]at k6;rcases k6 with rfl|rfl
 .exact c9
 exact c9
section
variable {z:ah}{cap:Nat}{q:List Int}{n:Int}
def qS.send(ho:o.op=.send x y)(hl:U[l]?=O (.cJ (kr z cap q ae)))(AK:ck J x=jA z)(H:ck J y=b7 (.int .i64 n))(aa:V q<cap):
  qS P N o J U .any (U.set l (.cJ (kr z cap (q++[n]) ae))):=by
 intro s a f hh b k cs ops i rest hb hi hw;obtain⟨L,r,sn,C,g⟩:=kr.open hh hl;have ex:a.eval x=.chan (O r):=(Wd (dz f x) AK).trans g.m;obtain⟨M,Q⟩:=rdI (dz f y) H;have B:r<s.w.heap.size:=(gN.1 g.heap).1;refine Fw (c:=r) (U':=U.set l (.cJ (kr z cap (q++[n]) ae))) (g2:=G (b.aT (a.put o.dst ai) (.inRegion ops rest::k)) cs) Z hh (λd gs sl h0 hp=>?_) B;have p:cK s {s with w:=s.w.at d}:=cK.at hh.mem d;have t:=hh.rely p;have K:DQ {s with w:=s.w.at d} l z cap q ae L r sn C:=⟨g.Ae,g.v,g.m,g.inr,g.heap,g.bs⟩;obtain⟨E,F⟩:=K.kO t hl (q':=q++[n]) ae (sn+1) C (λm hm=>(eZ.1 hm).elim (g.inr m) λh=>by simp_all)
 have u:aU P (0==0) (G (b.aT a (.inRegion ops (i::rest)::k)) cs) (s.w.at d)=.comm (G (b.aT a (.inRegion ops (i::rest)::k)) cs) #[scase r (.int .i64 n) (.tuple #[])] W .send (s.w.at d) #[]:=by have D:(b.kind==CallKind.early)=ae:=az;rw[ur hi hw (by simp[ho])];simp[stepG.apply,ar,ho,ex,M,G,Frame.aT,D,GStep.after,scase,seen]
 have j:=crowd_send_room (P:=P) (sl:=sl) h0 u g.heap c9 (hp r ae);rw[abc hi,show(q.map (Value.int .i64)).toArray.push (.int .i64 n)=((q++[n]).map (Value.int .i64)).toArray by simp]at j;refine⟨{s with w:=(s.w.at d).setChan r cap ((q++[n]).map (Value.int .i64)).toArray ae (sn+1) C ae},_,j,MZ,E,F,ai,rfl,E,p.db.trans (F.pC t),an⟩
variable {T:av}{A:ChanDir}
def ZJ(ho:o.op=.recv T x W){b:bd}{a:Act}{k:List Item}{rest:List Nat}{r:Nat}(l:b.kind≠.early)(hi:ops[i]?=O o)(j:bn o (yielded ops a.tmps)=W)(hT:P.underlying T=O (.chan A E))(e:∀w,(zeroValue E).run P w=.ok (.int .i64 0) w)(f:a.eval x=.chan (O r)):
  aU P (0==0) (G (b.aT a (.inRegion ops (i::rest)::k)) cs) w=.comm (G (b.aT a (.inRegion ops (i::rest)::k)) cs) #[rcase r (.int .i64 0)] W (.recv W) w #[]:=by
 have c:(b.kind==CallKind.early)=ae:=az;have d:(underlying T).run P w=.ok (.chan A E) w:=by simp[underlying,hT]
 have h:(ar a.eval o).run P w=.ok (.comm #[rcase r (.int .i64 0)] W (.recv W)) w:=Rj;have g:(ar a.eval o).events P w #[]=#[]:=Rj;rw[ur hi j (by simp[ho])];simp[stepG.apply,h,g,G,Frame.aT,c,GStep.after,seen]
def qS.recv(ho:o.op=.recv T x W)(hT:P.underlying T=O (.chan A E))(F:∀w,(zeroValue E).run P w=.ok (.int .i64 0) w){cl:Bool}(hl:U[l]?=O (.cJ (kr z cap (n::q) cl)))(C:ck J x=jA z):
  qS P N o J U (.gI [.bX (.c (.int .i64 n)),.bX (.c (.bool W))]) (U.set l (.cJ (kr z cap q cl))):=by
 intro s a f hh b k cs ops i rest hb hi hw;obtain⟨L,r,sn,u,g⟩:=kr.open hh hl;have ex:a.eval x=.chan (O r):=(Wd (dz f x) C).trans g.m;have t:r<s.w.heap.size:=(gN.1 g.heap).1;refine Fw (c:=r) (U':=U.set l (.cJ (kr z cap q cl))) (g2:=G (b.aT (a.put o.dst (.tuple #[.int .i64 n,.bool W])) (.inRegion ops rest::k)) cs) Z hh (λd gs sl h0 hp=>?_) t;have j:cK s {s with w:=s.w.at d}:=cK.at hh.mem d;have p:=hh.rely j;have D:DQ {s with w:=s.w.at d} l z cap (n::q) cl L r sn u:=⟨g.Ae,g.v,g.m,g.inr,g.heap,g.bs⟩;obtain⟨y,B⟩:=D.kO p hl (q':=q) cl sn (u+1) λm hm=>g.inr m (lY _ hm)
 have h:=crowd_recv_buf (P:=P) (w:=s.w.at d) (sl:=sl) h0 (ZJ ho hb hi hw hT F ex) g.heap ay (hp r W);have e1:((n::q).map (Value.int .i64)).toArray.extract 1 ((n::q).map (Value.int .i64)).toArray.size=(q.map (Value.int .i64)).toArray:=by simp[Mz]
 have e2:((n::q).map (Value.int .i64)).toArray.getD 0 ai=.int .i64 n:=ay;rw[abc hi,e1,e2]at h;exact⟨{s with w:=(s.w.at d).setChan r cap (q.map (Value.int .i64)).toArray cl sn (u+1) ae},_,h,MZ,y,B,_,rfl,y,j.db.trans (B.pC p),⟨_,rfl,Rd.int (g.inr n iL),Rd.bool,an⟩⟩
def qS.RU(ho:o.op=.recv T x W)(hT:P.underlying T=O (.chan A E))(y:∀w,(zeroValue E).run P w=.ok (.int .i64 0) w)(hl:U[l]?=O (.cJ (kr z cap [] W)))(u:ck J x=jA z):
  qS P N o J U (.gI [.bX (.c (.int .i64 0)),.bX (.c (.bool ae))]) U:=by intro s a f hh b k cs ops i rest hb hi hw;obtain⟨L,r,sn,B,g⟩:=kr.open hh hl;have ex:a.eval x=.chan (O r):=(Wd (dz f x) u).trans g.m;have t:r<s.w.heap.size:=(gN.1 g.heap).1;refine Fw (c:=r) (U':=U) (g2:=G (b.aT (a.put o.dst (.tuple #[.int .i64 0,.bool ae])) (.inRegion ops rest::k)) cs) Z hh (λd gs sl h0 hp=>?_) t;have j:cK s {s with w:=s.w.at d}:=cK.at hh.mem d;have p:=hh.rely j;have h:=crowd_recv_closed (P:=P) (w:=s.w.at d) (sl:=sl) h0 (ZJ ho hb hi hw hT y ex) g.heap (hp r W);rw[abc hi]at h;refine⟨{s with w:=s.w.at d},_,h,λop k6=>?_,p,.refl _ _,_,rfl,p,j.db,⟨_,rfl,Rd.int qJ,Rd.bool,an⟩⟩;simp[MemOp.ofEvents]at k6;exact wj
def qS.close(ho:o.op=.call {callee:=.builtin .close,args:=#[x],argTypes:=lh})(hl:U[l]?=O (.cJ (kr z cap q ae)))(c:ck J x=jA z):
  qS P N o J U .any (U.set l (.cJ (kr z cap q W))):=by
 intro s a f hh b k cs ops i rest hb hi hw;obtain⟨L,r,sn,B,g⟩:=kr.open hh hl;have ex:a.eval x=.chan (O r):=(Wd (dz f x) c).trans g.m;have AK:r<s.w.heap.size:=(gN.1 g.heap).1;refine Hf.aaY Z λSh gs d sl t q' hm h0 hL hP hc Qq=>?_;have y:cK s {s with w:=s.w.at d}:=cK.at hh.mem d;have D:=hh.rely y;have aa:DQ {s with w:=s.w.at d} l z cap q ae L r sn B:=⟨g.Ae,g.v,g.m,g.inr,g.heap,g.bs⟩;obtain⟨M,F⟩:=aa.kO D hl (q':=q) W sn B g.inr;have C:ar a.eval o=(do pure (.value (<-Builtin.close_ lh o.type #[a.eval x]))):=QT
 have p:(s.w.at d).heap[r]?=O (.chan cap (q.map (Value.int .i64)).toArray ae sn B ae):=g.heap;have E:(ar a.eval o).run P (s.w.at d)=.ok (.value (.tuple #[])) ((s.w.at d).setChan r cap (q.map (Value.int .i64)).toArray W sn B ae):=by rw[C,ex];simp[run_close_open _ _ p,World.setChan]
 have K:(ar a.eval o).events P (s.w.at d) #[]=#[⟨.obj r,ae,W⟩,⟨.obj r,W,W⟩]:=by rw[C,ex];simp[run_close_open _ _ p,events_close_open _ _ p]
 have H:=Ht (rest:=rest) (k:=k) (cs:=cs) (main:=0==0) hi hw hb E;have hT:=runT_crowd_go (P:=P) (sl:=sl) (i:=0) h0 H;have h:0<gs.size:=(gN.1 h0).1;have Q:¬Sh r:=λx=>hc.β _ x L (b9 g.Ae) ((g.bs r).2 Z);have j:∀e∈listed P b.fn a o (s.w.at d),e=⟨.obj r,ae,W⟩∨e=⟨.obj r,W,W⟩:=λe u=>by have:=Go.Conc.mem_seen u;rw[K]at this;simpa using this
 refine⟨_,G (b.aT (a.put o.dst (.tuple #[])) (.inRegion ops rest::k)) cs,{s with w:=(s.w.at d).setChan r cap (q.map (Value.int .i64)).toArray W sn B ae},_,hT,M.mem,by simp[h],hL.own (λop k6=>by grind[Go.Conc.mem_ofEvents]) h,?_,(hc.at d).step F,Qq.app λe u a c=>?_,.tuple #[],rfl,M,y.db.trans (F.pC D),an⟩
 .refine(hP.mono F.size).own λe u=>?_;have hB:=eb AK F.size;rcases j e u with rfl|rfl
  .exact⟨λx c R=>by simp[aV,MemAct.touch?]at c;subst c;simp,by simp,by simp,by simp[aV,MemAct.low,Loc.low];exact hB⟩
  exact⟨λx c R=>by simp[aV,MemAct.touch?]at c,by simp,by simp,by simp[aV,MemAct.low];exact hB⟩
 rcases j e u with rfl|rfl<;>cases c
end
section
variable {X:Cx P}{T:av}{A:ChanDir}
def I.WJ(h:o.op=.makeChan T x)(hT:P.underlying T=O (.chan A E)){i:TypeInfo}(d:P.info? E=O i){n:Nat}(m:ck J x=b7 (.int .i64 n))(hb:i.bytes=8)(y:n<=4000000)(r:o.guard=af)(g:g7 N o.dst=W)(k:∀z,I X N Qf (.ops all rest::K) .normal (lU o.dst (jA z) J) (U++[.cJ (kr z n [] ae)])):I X N Qf (.ops all (o::rest)::K) .normal J U:=by
 refine I.Fi (ι:=ah) (λz=>jA z) (λz=>U++[.cJ (kr z n [] ae)]) r g (λs a l hh=>?_) k;obtain⟨ex,_⟩:=rdI (dz l x) m;let w':aB:={s.w with heap:=s.w.heap.push (.chan n #[] ae 0 0 ae)}
 have f:w'.heap[s.w.heap.size]?=O (.chan n #[] ae 0 0 ae):=az;have j:w'.heap.size=s.w.heap.size+1:=az;obtain⟨p,g2⟩:=hh.C4 (M':=s.M) (w':=w') az (λb hb=>by grind) (λ_ _ _=>rfl) (λb hb o v hm=>by have:=hh.block hm;omega) rfl rfl rfl;obtain⟨u,t⟩:=p.jQ g2 rfl hh (B:=.cJ (kr (.chan (O s.w.heap.size)) n [] ae)) (L:=⟨.chan (O s.w.heap.size),[s.w.heap.size]⟩)
  ⟨λb=>if b=s.w.heap.size then O (.chan n #[] ae 0 0 ae)else af,⟨rfl,_,0,0,rfl,by simp,λ_=>rfl⟩,λb o hb=>by
   grind,λb=>by by_cases e:b=s.w.heap.size<;>simp[e],λb hb o=>by
   simp at hb;subst hb;show s.M _ _=af;cases hm:s.M s.w.heap.size o with
   |none=>rfl
   |some v=>have:=hh.block hm;omega⟩ (λb hb=>by grind)
 refine⟨.chan (O s.w.heap.size),.value (.chan (O s.w.heap.size)),_,.chan (O s.w.heap.size),?_,.inl Z,Rd.val Z,u,t,?_⟩
 .simp[ar,h,ex,Go.Conc.run_makeChan hT d .i64 n aq wj,w']
 simp[ar,h,ex,Go.Conc.run_makeChan hT d .i64 n aq wj,Go.Conc.events_makeChan hT d .i64 n aq wj];exact .nil
end
end
end
section
open Go.RowKit
open Go.Conc (G solo crowd AtRel Past EvL Leavers)
def St.zC(w:aB):St:={β:=[],M:=λb o=>w.cell? ⟨b,o,af⟩,w:=w,own:=λb=>b<w.heap.size}
def aH.zC(w:aB):aH [] (St.zC w):=⟨λ_ _ _ h=>h,rfl,by simp,by simp[St.zC],by simp[St.zC],λb hb=>⟨hb,by simp[St.zC]⟩⟩
def ab3{f:aO}{c:bd}(h:zw P f c v s)(hi:P.inits.idxOf? f=af)(w:aB)(k:∀b o u,s.M b o=O u->w.cell? ⟨b,o,af⟩=O u):∃es,aU P W (G c []) w=.ended (.done v) w es/\∀e∈es,∃b o u,e=⟨.cell ⟨b,o,af⟩,ae,ae⟩/\s.M b o=O u:=by
 obtain⟨fn,j,a⟩:=h.fn;obtain⟨l,g⟩:=a w k;refine⟨seen P c.fn ((results fn c.tmps).events P w #[]),?_,λe i=>g e (Go.Conc.mem_seen i)⟩;have d:P.inits.idxOf? c.fn=af:=by rw[h.isF];exact hi
 simp[G,aU,unwind,doReturn,h.mode,h.defers,h.kind,j,l,d,GStep.after]
abbrev Gl:=Nat×av×ah
abbrev Xw(gs:List Gl):List bq:=gs.map λx=>.cJ (fy x.1 x.2.1 x.2.2)
def St.vM(gs:List Gl)(w:aB):St:={β:=gs.map λx=>⟨.pointer (O ⟨x.1,0,af⟩),[x.1]⟩,M:=λb o=>if b∈gs.map (·.1)then af else w.cell? ⟨b,o,af⟩,w:=w,own:=λb=>b<w.heap.size/\b∉gs.map (·.1)}
def aH.vM{gs:List Gl}{w:aB}(k:(gs.map (·.1)).Nodup)(j:∀x∈gs,w.heap[x.1]?=O (.cells #[x.2.2] x.2.1 (0,0))):aH (Xw gs) (St.vM gs w):=by
 have i:∀x∈gs,x.1<w.heap.size:=λx d=>(gN.1 (j x d)).1;have a:∀(l:Nat) (L:Loc),(St.vM gs w).β[l]?=O L->∃x,gs[l]?=O x/\L=⟨.pointer (O ⟨x.1,0,af⟩),[x.1]⟩:=λl L h=>by simp only[St.vM,qn,vm]at h;grind
 refine⟨λb o v f=>?_,by simp[St.vM],λl B L hB hl=>?_,λl l' L L' h1 h2 b hb qq=>?_,λL h b hb=>?_,λb hb=>⟨hb.1,λL h c=>?_⟩⟩
 .simp only[St.vM]at f;split at f
  .cases f
  exact f
 .obtain⟨x,h1,rfl⟩:=a l L hl;simp only[Xw,qn,h1,oQ,eF]at hB;subst hB;have d:=b9 h1;refine⟨λb=>if b=x.1 then O (.cells #[x.2.2] x.2.1 (0,0))else af,⟨Z,bh Z,λb hb=>bc hb⟩,λb o hb=>?_,λb=>?_,λb hb o=>?_⟩
  .simp only at hb;split at hb
   .rename_i e;cases hb;rw[e];exact j x d
   grind
  .by_cases e:b=x.1<;>simp[e]
  rw[gj]at hb;subst hb;exact bh (ja.2 ⟨x,d,Z⟩)
 .obtain⟨x,g,rfl⟩:=a l L h1;obtain⟨y,g2,rfl⟩:=a l' L' h2;rw[gj]at hb qq;have e:x.1=y.1:=hb.symm.trans qq;have a1:(gs.map (·.1))[l]?=O x.1:=az;have a2:(gs.map (·.1))[l']?=O x.1:=az;grind[List.getElem?_inj]
 .obtain⟨l,hl⟩:=E4 h;obtain⟨x,g,rfl⟩:=a l L hl;rw[gj]at hb;subst hb;exact i x (b9 g)
 obtain⟨l,hl⟩:=E4 h;obtain⟨x,g,rfl⟩:=a l L hl;rw[gj]at c;subst c;exact hb.2 (ja.2 ⟨x,b9 g,Z⟩)
def aH.ai4{gs:List Gl}(h:aH (Xw gs) s){x:Gl}(b:x∈gs):s.w.heap[x.1]?=O (.cells #[x.2.2] x.2.1 (0,0)):=by
 obtain⟨l,hl⟩:=E4 b;have hB:(Xw gs)[l]?=O (.cJ (fy x.1 x.2.1 x.2.2)):=az;have a:l<V s.β:=by rw[h.len];grind
 obtain⟨ch,⟨_,h2,_⟩,c,_⟩:=h.box l _ _ hB (bD a);grind
def e9.Tf{f:aO}{args:List D}{gs:List Gl}(h:e9 (Cx.cx P) f args (Xw gs) res (λ_=>Xw gs))(hi:P.inits.idxOf? f=af)(aa:(gs.map (·.1)).Nodup)(y:∀x∈gs,w.heap[x.1]?=O (.cells #[x.2.2] x.2.1 (0,0)))(F:cU (Xw gs) (St.vM gs w) vs args){Post:ah->aB->Prop}(E:∀i v s',ey (Xw gs) s' v (res i)->Below w.heap.size w s'.w->∀d,Post v (s'.w.at d)):
  ∃M last o w' t',runNT P (M+1) (solo (G (Frame.enter P f vs.toArray .normal) []) w) #[]=(.ended o w',t')/\runN P M (solo (G (Frame.enter P f vs.toArray .normal) []) w)=.next last /\
   step P last=.ended o w'/\Go.Conc.Good P Post last o w' t':=by
 have j:=aH.vM aa y;have key:=h.2 (St.vM gs w) vs F j (λg s'=>∃i v fr,g=G fr []/\zw P f fr v s'/\ey (Xw gs) s' v (res i)/\Below w.heap.size w s'.w) []
  (λi fr v s' h1 h2 h3 h4=>.stop ⟨i,v,fr,rfl,h1,h2,⟨h4.os,h4.tape,h4.output,h4.size,λk hk=>by
   by_cases e:k∈gs.map (·.1)
   .obtain⟨x,t,rfl⟩:=ja.1 e;rw[h3.ai4 t,y x t]
   .exact h4.keep k ⟨hk,e⟩⟩⟩)
 have A:AM.nn (λ_=>False)=λ_=>False:=by funext l;cases l<;>rfl
 obtain⟨N,s,q,g',s',m,t',q',h1,h2,h3,h4,S,z,ak,⟨i,v,fr,rfl,k1,R,Q⟩⟩:=key.cx (λ_=>False) #[G (Frame.enter P f vs.toArray .normal) []] af #[] (λ_=>0) j.mem rfl (Go.Conc.leavers_one P _)
  (by rw[A];exact Go.Conc.past_nil.mono (kn _)) ⟨λ_ h=>h.elim,λ_ h=>h.elim,λ_ h=>h.elim,λ_ h=>h.elim⟩ (λa=>by intro i hi;simp[Trace.act?]at hi)
 have c:=Go.Conc.beside_ends (P:=P) (Shun:=AM.nn s) (B:=s'.w.heap.size) (D:=λ_ _ _=>False) (Post:=Post) (λ_ _ _ h=>h.elim) (sl:=m) (n:=0) h3 h4 S (Go.Conc.Goes.stop λw1 hw1=>by
  obtain⟨d,rfl⟩:=hw1;obtain⟨es,e1,e2⟩:=ab3 k1 hi (s'.w.at d) (λb o u r=>h2 b o u r);refine⟨Z,v,es,e1,λe K=>?_,E i v s' R Q d⟩;obtain⟨b,o,u,rfl,r⟩:=e2 e K;refine Go.Conc.evL_cell _ _ (λT=>?_) (jk.lt h2 r);have:=z.M b T o
  grind)
 obtain⟨p,last,o,w',C,J,U,AK,L⟩:=c;refine⟨N+p,last,o,w',C,?_,?_,AK,L⟩
 .rw[show N+p+1=N+(p+1) by omega];exact(xY N (p+1) h1).trans J
 have e:=runNT_fst P N (crowd #[G (Frame.enter P f vs.toArray .normal) []] w af) #[];have H:(runNT P N (crowd #[G (Frame.enter P f vs.toArray .normal) []] w af) #[]).1=.next (crowd q s'.w m):=by have:runNT P N (crowd #[G (Frame.enter P f vs.toArray .normal) []] w af) #[]=_:=h1;grind
 grind[Go.Conc.solo_eq_crowd,runN_add]
def Rd.vM{gs:List Gl}{w:aB}(q:∀x∈gs,w.heap[x.1]?=O (.cells #[x.2.2] x.2.1 (0,0)))(hi:∀x∈gs,∃T u,x.2.2=.iface T u){v:ah}{t:Bool}{k n:Nat}{es:Nat->List C}(g:∀(i j:Nat)(c:C),(es i)[j]?=O c->∃kd m,c=C.int kd m)(h:Rd (St.zC w).M v (.sl t k n es)):Rd (St.vM gs w).M v (.sl ae k n es):=by
 obtain⟨a,cap,b,off,rfl,h1,h2,o,r,p⟩:=h.aiY;refine .aiZ h1 h2 o r λi f j c hj=>?_;obtain⟨u,d,q2⟩:=p i f j c hj;obtain⟨kd,m,rfl⟩:=g i j c hj;cases q2 with
 |int hr =>
  refine⟨_,?_,.int hr⟩;have d:w.cell? ⟨b,off+i*k+j,af⟩=O (.int kd m):=d;show(if b∈gs.map (·.1)then af else w.cell? _)=_;rw[bc,d];intro hb;obtain⟨x,l,rfl⟩:=ja.1 hb;obtain⟨T,u,e⟩:=hi x l;simp only[a9,q x l,e]at d;grind
end
section
open Go.ChangeShapes Go.WideShapes Go.ChangeAt Go.RowKit
def sh{H:Type}{enc:av×ah->H}{a:Assume}{C:Checked}{os:Os}{f:aO}{fn:Func}{s:ChangeSpec}{g:List PathCond}{pY aaH handsOn again:Bool}{X:aB->Array ah->Prop}(AK:∀(w w':aB) (args:Array ah),w.heap=w'.heap->X w args->X w' args)(own:ownKnob C.prog.godebug=af)(h:os.Started)(r:C.prog.funcs[f]?=O fn)(d:∃(w:aB) (b:Tape) (i:Input),w.os=os/\(w.forCall b i).Shaped C.prog/\i.vars=[]/\Input.okWide C.prog (w.forCall b i) .any w.heap.size f i /\
   ((s.pre enc C.prog fn g pY (w.forCall b i).memory i.args/\X (w.forCall b i).memory i.args)/\sizedMet enc C.prog fn (OpenSpec.ofChange s) pY (w.forCall b i).memory i.args)/\a.holds C.prog (lone (Frame.enter C.prog f i.args .normal) [] (w.forCall b i)))(l:∀(ab:aB) (base:Nat) (args:Array ah) (ds gs:List (DataW H)) (c:List MemPlace),
   (∀(j:Nat) t v,fn.params[j]?=O t->args[j]?=O v->Value.okWide C.prog ab .any base t v) ->
   DataW.Whole enc C.prog fn.params.toList s.vars pY ab args.toList ds gs c->ab.ShapedOpen C.prog->X ab args ->
   ∃M last o w' t',runNT C.prog (M+1) (Conc.solo (Conc.G (Frame.enter C.prog f args .normal) []) ab) #[]=(.ended o w',t')/\runN C.prog M (Conc.solo (Conc.G (Frame.enter C.prog f args .normal) []) ab)=.next last /\
    step C.prog last=.ended o w'/\Conc.Good C.prog (λv F=>s.post enc C.prog fn pY aaH handsOn again ab args v F) last o w' t'):
  ReturnsInLeavingWide a C os f .any (λw args=>(s.pre enc C.prog fn g pY w args/\X w args)/\sizedMet enc C.prog fn (OpenSpec.ofChange s) pY w args) (s.post enc C.prog fn pY aaH handsOn again):=by refine returnsInLeavingWide_of_good own h d ?_;intro w b i _ u _ q k p;obtain⟨_,_,_,x,m,_,_,_,_,n⟩:=q;have e:x=fn:=ou (m.symm.trans r);subst e;obtain⟨⟨⟨ds,gs,c,K,L⟩,A⟩,N⟩:=k;have y:=DataW.Whole.of_heap (w':=w.forCall b i) wK K;obtain⟨M,last,o,w',t',E,D,z,B⟩:=l (w.forCall b i) w.heap.size i.args ds gs c n y u (AK (w.forCall b i).memory (w.forCall b i) i.args rfl A);exact⟨M,last,o,w',t',E,D,z,B.mono λv J=>ChangeSpec.post_blind J⟩
def yz(k:Looks){p:Pinned}{s:OpenSpec}{c:OpenClaim}(l:List (List PathCond))(kinds:List LaidKind)(a:Bool)(b:Bool×String)(lk:Bool)(v:c.holds p s)(m:∀D∈l,(c.withDomain D).holds p s)(x:c.wfByText s=W)(i:∀D∈l,(c.withDomain D).wfByText s=W)(d:c.laidByTextAt k p kinds a)(e:c.start=.entering)(g:c.noBlocks=ae/\c.again=ae)(u:p.checked.prog.mainIs=O (b.1,b.2.toList))(y:(!b.1&&b.2.isEmpty&&!lk)=ae)(n:∀f fn,p.checked.prog.funcNamed c.func=O f->p.checked.prog.funcs[f]?=O fn->lk=p.checked.prog.looks []/\∀(j:Nat) t,fn.params[j]?=O t->p.checked.prog.wantsStandIn t=ae)(w:W=c.goesBy p.checked.prog):
  Claim7.holds p (.plain s) {stood:={row:=c,standIns:=[],harness:=b,looks:=lk},kinds:=[],alts:=l,goes:=W,laidByText:=W,laidKinds:=kinds,laidTests:=a,laidLooks:=k}:=by
 have o:∀r:OpenClaim,Claim7.isSixth {stood:={row:=r,standIns:=[],harness:=b,looks:=lk},kinds:=[]}=ae:=λr=>by exact j3
 refine⟨Claim7.tied_new_at k kinds a (Claim7.new_of_sixth v b lk e g u (o c) n) x,λD q=>?_,d,(λh=>by cases h),w⟩;exact Claim7.tied_new_at k kinds a (Claim7.new_of_sixth (m D q) b lk e g u (o _) n) (i D q)
end
namespace R1
def dl(s:Bs)(i:Nat):Int:=(dM s i-97) % 256
def kO(t:Bs)(e:Nat):Bool:=(dl t (e-1)+2*dl t (e-2)+3*dl t (e-3)) % 5==0
def yl(t:Bs)(f:Nat):Nat->Nat
 |0=>min (f+8) (V t)
 |k+1=>if V t<=f+(7-k)then V t else if kO t (f+(7-k))then f+(7-k)else yl t f k
def fH(t:Bs)(f:Nat):Nat:=yl t f 5
def N1(t:Bs)(f:Nat)(a:f<V t):∀k,k<=5->f<yl t f k/\yl t f k<=V t/\yl t f k<=f+8
 |0,_=>by simp only[yl];omega
 |k+1,hk=>by
  simp only[yl];split
  .omega
  split
  .omega
  exact N1 t f a k aq
theorem pg(t:Bs)(f:Nat)(a:f<V t):f<fH t f/\fH t f<=V t/\fH t f<=f+8:=N1 t f a 5 aq
def qd(t:Bs):Nat->Nat->List Nat
 |0,_=>[]
 |k+1,f=>if f<V t then fH t f::qd t k (fH t f)else[]
def X2(t:Bs):List Nat:=qd t (V t) 0
def gV(t:Bs):Nat->Nat->List Bs
 |0,_=>[]
 |k+1,f=>if f<V t then(t.drop f).take (fH t f-f)::gV t k (fH t f)else[]
def bR(t:Bs):List Bs:=gV t (V t) 0
def ig(l:List Bs):Option Bs:=if fG l.flatten&&(bR l.flatten==l)then O l.flatten else af
def bH(p:Bs):Bool:=decide (1<=V p)&&decide (V p<=8)&&cV p
def gq(p:Bs):Int:=p.foldl (λn b=>27*n+((b.toNat:Int)-97) % 256+1) 0
def cN(k:Int):Bool:=decide (1<=k)&&decide (k<=99)
def fb(k:Int)(p:Bs):Int:=(gq p*(2*k+1)+k*7919) % 999999999989
def dW(n:Nat):Nat:=if n<1∨8<n then 0 else if n<=2 then 2 else if n<=4 then 4 else 8
def iv(p:Bs):Bs:=if bH p then p++List.replicate (dW (V p)-V p) 46 else[]
def gQ(b:Bs):Bs:=(b.reverse.dropWhile (·==46)).reverse
def gu(b:Bs):Option Bs:=if bH (gQ b)&&(iv (gQ b)==b)then O (gQ b)else af
abbrev bJ:=Int×Bs
abbrev bz:=Int×List bJ
def right(k:Int)(x:bJ):Bool:=match gu x.2 with|some p=>fb k p==x.1|none=>ae
def Gj(l:List Int):Bool:=(bl (V l)).all λi=>i==0||decide (l.getD (i-1) 0<l.getD i 0)
def jg(k:Int)(p:bz):Bool :=
 decide (1<=p.1)&&decide (p.1<=99)&&cN k&&decide (1<=V p.2)&&decide (V p.2<=4)&&p.2.all (right k)&&Gj (p.2.map (·.1))
def mh(k:Int)(x:bJ):Option Bs:=match gu x.2 with|some p=>if cN k&&(fb k p==x.1)then O p else af|none=>af
def eJ(k:Int)(p:bz)(n:Int):Option Bs:=match p.2.find? (λx=>x.1==n)with|some x=>mh k x|none=>af
def ei(p:bz)(ns:List Int):bz:=(p.1,p.2.filter λx=>ns.contains x.1)
def k9(l:List bJ)(x:bJ):List bJ:=match l with
 |[]=>[x]
 |y::r=>if x.1<y.1 then x::y::r else y::k9 r x
def gF(no k:Int)(ps:List Bs):bz:=(no,ps.foldl (λl p=>k9 l (fb k p,iv p)) [])
abbrev cX:=Int×Int
def fS(s:cX):Bool:=decide (0<=s.1)&&decide (s.1<999999999989)&&decide (1<=s.2)&&decide (s.2<=99)
def iF(l:List cX)(s:cX):List cX:=match l with
 |[]=>[s]
 |y::r=>if y.1<s.1 then y::iF r s else s::(y::r).filter (λz=>!(z.1==s.1))
def ml(l:List cX)(n:Int):Int:=match l.find? (λs=>s.1==n)with|some s=>s.2|none=>0
def dC(l:List bz):List cX:=l.flatMap λp=>p.2.map λx=>(x.1,p.1)
def dh(l:List bz):List cX:=if(dC l).all fS then(dC l).foldl iF []else[]
abbrev iU:=Bs×List Int
abbrev dn:=Int×List iU
def nO(k:Int)(f:bF):iU:=(f.1,(bR f.2).map (fb k))
def di(no k:Int)(t:List bF):dn:=(no,t.map (nO k))
def kl(k:Int)(l:List cX)(gf:List Bs)(p:Bs):List Bs:=if ml l (fb k p)==0&&!gf.contains p then gf++[p]else gf
def eK(k:Int)(t:List bF)(l:List cX):List Bs:=(t.flatMap λf=>bR f.2).foldl (kl k l) []
def dx(k:Int)(ps:List bz)(n:Int):Option Bs:=ps.findSome? λp=>eJ k p n
def jL{p:Bs}(h:cV p=W):∀b∈p,97<=b.toNat/\b.toNat<=122:=by intro b a;have:=bL.1 h b a;simpa[iG]using this
def BH:∀(p:Bs) (n m:Int)(k:Nat),(∀b∈p,97<=b.toNat/\b.toNat<=122)->0<=n->n<m->1<=m ->
  0<=p.foldl (λn b=>27*n+((b.toNat:Int)-97) % 256+1) n/\p.foldl (λn b=>27*n+((b.toNat:Int)-97) % 256+1) n<m*27 ^ V p
 |[],n,m,_,_,d,c,_=>by grind
 |b::p,n,m,k,a,d,c,e=>by obtain⟨f,q2⟩:=a b ay;have:=BH p (27*n+((b.toNat:Int)-97) % 256+1) (m*27) k (λx g=>a x az) aq aq aq;grind[Int.mul_assoc]
def aaf:∀{n:Nat},n<=8->(27:Int) ^ n<=282429536481:=by
 intro n a
 match n,a with
 |0,_|1,_|2,_|3,_|4,_|5,_|6,_|7,_|8,_=>decide
def uF{p:Bs}(h:bH p=W):0<=gq p/\gq p<282429536481:=by simp only[bH,cu,bu]at h;obtain⟨a,q2⟩:=BH p 0 1 0 (jL h.2) aq aq aq;have:=aaf h.1.2;rw[Int.one_mul]at q2;exact⟨a,Int.lt_of_lt_of_le q2 this⟩
def cop:∀d:Fin 200,d.val≠0->Nat.gcd 999999999989 d.val=1:=uY
def acZ{a:Nat}{P c d:Int}(b:P=(a:Int))(h:P ∣ c*d)(i:0<c)(k:c<P)(g:Nat.gcd a d.natAbs=1):False:=by
 subst b;have e:a ∣ c.natAbs*d.natAbs:=by have:=Int.natAbs_dvd_natAbs.2 h;grind[Int.natAbs_mul,Int.natAbs_natCast]
 have f:a ∣ c.natAbs:=Nat.Coprime.dvd_of_dvd_mul_right g e;have j:=Nat.le_of_dvd aq f;omega
def Yp{a b P:Int}(h:a % P=b % P):P ∣ a-b:=Int.dvd_of_emod_eq_zero (by rw[Int.sub_emod,h,Int.sub_self,Int.zero_emod])
def xC(l:Bs):Int:=l.foldr (λb n=>27*n+((b.toNat:Int)-97) % 256+1) 0
def Jf:∀p:Bs,0<=xC p
 |[]=>by simp[xC]
 |b::p=>by have:=Jf p;simp only[xC,List.foldr_cons]at *;omega
def Ex:∀{p q:Bs},(∀b∈p,97<=b.toNat/\b.toNat<=122)->(∀b∈q,97<=b.toNat/\b.toNat<=122)->xC p=xC q->p=q
 |[],[],_,_,_=>rfl
 |[],c::q,_,a,h|c::q,[],a,_,h=>by have:=Jf q;simp only[xC,List.foldr_cons,List.foldr_nil]at *;omega
 |b::p,c::q,d,a,h=>by have g:=d b ay;have i:=a c ay;have f:=Ex (p:=p) (q:=q) (λx e=>d x az) (λx e=>a x az);simp only[xC,List.foldr_cons]at h f;grind[UInt8.toNat_inj]
def LO{p q:Bs}(b:bH p=W)(c:bH q=W)(h:gq p=gq q):p=q:=by
 have e:∀p,gq p=xC p.reverse:=λp=>by simp[gq,xC,List.foldr_reverse]
 simp only[bH,cu]at b c;rw[e,e]at h;exact List.reverse_inj.1 (Ex (λx a=>jL b.2 x (List.mem_reverse.1 a)) (λx a=>jL c.2 x (List.mem_reverse.1 a)) h)
def uM(hk:cN k=W){p q:Bs}(e:bH p=W)(c:bH q=W)(h:fb k p=fb k q):p=q:=by
 refine LO e c ?_;simp only[cN,cu,bu]at hk;obtain⟨d,c1⟩:=uF e;obtain⟨f,d1⟩:=uF c;have key:∀x y:Int,0<=x->0<=y->x<282429536481->x>y->(x*(2*k+1)+k*7919) % 999999999989=(y*(2*k+1)+k*7919) % 999999999989->False:=by intro x y m l i j h;have b:=Yp h;rw[show(x*(2*k+1)+k*7919)-(y*(2*k+1)+k*7919)=(x-y)*(2*k+1) by grind]at b;have g:(2*k+1).natAbs<200:=aq;exact acZ (a:=999999999989) Z b aq aq (cop ⟨_,g⟩ az)
 rcases Int.lt_trichotomy (gq p) (gq q)with b|b|b
 .exact(key _ _ f d d1 b h.symm).elim
 .exact b
 exact(key _ _ d f c1 b h).elim
theorem PL{p:Bs}(h:cV p=W)(n:Nat):gQ (p++List.replicate n 46)=p:=by
 have e:∀n,List.dropWhile (·==46) ((List.replicate n (46:UInt8))++p.reverse)=p.reverse:=by
  intro n;induction n with
  |zero =>
   simp only[List.replicate_zero,pM];cases f:p.reverse with
   |nil=>rfl
   |cons b r =>
    have d:b∈p:=List.mem_reverse.1 az;have:=jL h b d;have a:(b==46)=ae:=by simp only[eC];rintro rfl;grind
    simp[a]
  |succ n c=>simpa[List.replicate_succ]using c
 unfold gQ;grind
def Jg{p:Bs}(h:bH p=W):gu (iv p)=O p:=by
 have a:cV p=W:=by simp only[bH,cu]at h;exact h.2
 have e:iv p=p++List.replicate (dW (V p)-V p) 46:=by simp[iv,h]
 have s:gQ (iv p)=p:=by grind[PL]
 simp[gu,s,h]
def NY:∀{p q:List Int},p.Pairwise (· < ·)->q.Pairwise (· < ·)->(∀n,n∈p↔n∈q)->p=q
 |[],[],_,_,_=>rfl
 |[],b::q,_,_,h=>by have:=(h b).2 iL;cases this
 |a::p,[],_,_,h=>by have:=(h a).1 iL;cases this
 |a::p,b::q,m,l,h=>by
  obtain⟨k,p2⟩:=ju.1 m;obtain⟨j,q2⟩:=ju.1 l;have c:=(h a).1 iL;have d:=(h b).2 iL;simp only[eQ]at c d;have e:a=b:=by
   rcases c with c|c
   .exact c
   rcases d with d|d
   .omega
   have:=k b d;have:=j a c;omega
  subst e;rw[NY p2 q2 λn=>?_];have g:=h n;simp only[eQ]at g;constructor
  .intro f;have:=k n f;rcases g.1 (.inr f)with i|i
   .omega
   omega
  intro f;have:=j n f;rcases g.2 (.inr f)with i|i
  .omega
  omega
def sK(l:List bJ)(i j:Nat):List bJ:=(l.set i (l.getD j (0,[]))).set j (l.getD i (0,[]))
def th(l:List bJ)(i j:Nat):Bool:=decide ((l.getD i (0,[])).1<(l.getD j (0,[])).1)
def E7:Nat->List bJ->Nat->List bJ
  | 0,l,_=>l
  | f+1,l,j=>if(j-1) / 2=j then l else if th l j ((j-1) / 2)=W then E7 f (sK l ((j-1) / 2) j) ((j-1) / 2)else l
def sL(l:List bJ)(i n:Nat):Nat:=if 2*i+2<n/\th l (2*i+2) (2*i+1)=W then 2*i+2 else 2*i+1
def j6:Nat->List bJ->Nat->Nat->List bJ
  | 0,l,_,_=>l
  | f+1,l,i,n=>if n<=2*i+1 then l else if th l (sL l i n) i=W then j6 f (sK l i (sL l i n)) (sL l i n) n else l
def kD(l:List bJ)(x:bJ):List bJ:=E7 (V l+1) (l++[x]) (V l)
def n6(l:List bJ):List bJ:=j6 (V l) (sK l 0 (V l-1)) 0 (V l-1)
def po:Nat->List bJ->List bJ
  | 0,_=>[]
  | f+1,l=>if V l=0 then[]else(n6 l).getD (V l-1) (0,[])::po f ((n6 l).take (V l-1))
def rq(l:List bJ):List bJ:=po (V l) (l.foldl kD [])
theorem oy(l:List bJ)(i j:Nat):V (sK l i j)=V l:=by simp[sK]
def NK:∀f l j,V (E7 f l j)=V l
  | 0,_,_=>rfl
  | f+1,l,j=>by unfold E7;split;rfl;split;rw[NK f,oy];rfl
def Eg:∀f l i n,V (j6 f l i n)=V l
  | 0,_,_,_=>rfl
  | f+1,l,i,n=>by unfold j6;split;rfl;split;rw[Eg f,oy];rfl
def Eh(l:List bJ)(x:bJ):V (kD l x)=V l+1:=by simp[kD,NK]
theorem ID(l:List bJ):V (n6 l)=V l:=by simp[n6,Eg,oy]
def X1{l:List bJ}(hi:i<V l)(a:j<V l){x:bJ}:x∈sK l i j->x∈l:=by intro h;unfold sK at h;grind
def T1(x:bJ):kD [] x=[x]:=j3
def T2(a x:bJ):kD [a] x=if x.1<a.1 then[x,a]else[a,x]:=QZ
def aao(a b x:bJ):kD [a,b] x=if x.1<a.1 then[x,b,a]else[a,b,x]:=QZ
def afO(a b c x:bJ):kD [a,b,c] x=if x.1<b.1 then(if x.1<a.1 then[x,a,c,b]else[a,x,c,b])else[a,b,c,x]:=QZ
def yp(f:Nat){l r:List bJ}{x:bJ}(b:V l=n+1)(h:n6 l=r++[x])(a:V r=n):po (f+1) l=x::po f r:=by rw[po,bc aq,h];grind
def afP(a:bJ):po 1 [a]=[a]:=j3
def aap(a b:bJ):po 2 [a,b]=[a,b]:=by rw[yp 1 (r:=[b]) (x:=a) (n:=1) Z j3 Z,afP]
def aaq(a b c:bJ):po 3 [a,b,c]=if b.1<c.1 then[a,b,c]else[a,c,b]:=by rw[yp 2 (r:=if b.1<c.1 then[b,c]else[c,b]) (x:=a) (n:=2) Z (by simp[n6,j6,sK,sL,th];split<;>rfl) (by split<;>rfl)];split<;>rw[aap]
def afQ(a b c d:bJ):po 4 [a,b,c,d]=a::po 3 (if c.1<b.1 then(if c.1<d.1 then[c,b,d]else[d,b,c])else if b.1<d.1 then[b,d,c]else[d,b,c]):=by rw[yp 3 (r:=if c.1<b.1 then(if c.1<d.1 then[c,b,d]else[d,b,c])else if b.1<d.1 then[b,d,c]else[d,b,c]) (x:=a) (n:=3) Z ?_ (by split<;>split<;>rfl)];by_cases g:c.1<b.1<;>by_cases f:c.1<d.1<;>by_cases e:b.1<d.1<;>simp[n6,j6,sK,sL,th,g,f,e]
theorem T3(l:List bJ)(h:V l<=4)(e:l.Pairwise λa b=>a.1≠b.1):rq l=l.foldl k9 []:=by
  match l,h with
  | [],_=>rfl
  | [a],_=>exact j3
  | [a,b],_ =>
    simp at e;simp only[rq,List.foldl,T1,T2,k9,eU,gk];split<;>simp[aap]
  | [a,b,c],_ =>
    simp at e;obtain⟨⟨q,n⟩,m⟩:=e;simp only[rq,List.foldl,T1,T2,k9,eU,gk];by_cases i:b.1<a.1<;>by_cases q2:c.1<a.1<;>by_cases j:c.1<b.1<;>first|omega |
      (have f:(a.1<b.1)=¬(b.1<a.1):=by grind
       have g:(a.1<c.1)=¬(c.1<a.1):=az;have k:(b.1<c.1)=¬(c.1<b.1):=az
       simp[i,q2,j,f,g,k,aao,aaq,k9])
  | [a,b,c,d],_ =>
    simp at e;obtain⟨⟨q,n,m⟩,⟨v,w⟩,u⟩:=e;simp only[rq,List.foldl,T1,T2,k9,eU,gk];by_cases i:b.1<a.1<;>by_cases q2:c.1<a.1<;>by_cases j:c.1<b.1<;>by_cases q4:d.1<a.1<;>by_cases r:d.1<b.1<;>by_cases o:d.1<c.1<;>first|omega |
      (have f:(a.1<b.1)=¬(b.1<a.1):=by grind
       have g:(a.1<c.1)=¬(c.1<a.1):=az;have k:(b.1<c.1)=¬(c.1<b.1):=az;have p:(a.1<d.1)=¬(d.1<a.1):=az;have s:(b.1<d.1)=¬(d.1<b.1):=az;have t:(c.1<d.1)=¬(d.1<c.1):=az
       simp[i,q2,j,q4,r,o,f,g,k,p,s,t,aao,afO,afQ,aaq,k9])
section
variable {X:Cx ag}
def c71:eP:=λargs U=>match args,U with
 |[.e (.bX (.c (.du b)))],[]=>O (dB (fT b),[],[])
 |_,_=>af
def t71:fp X 71 c71:=by intro args U res U' obs h _;unfold c71 at h;grind[PR]
def c72:eP:=λargs U=>match args,U with
 |[.e (.bX (.c (.du b)))],[]=>O (dB (fG b),[],[])
 |_,_=>af
def t72:fp X 72 c72:=by intro args U res U' obs h _;unfold c72 at h;grind[PS]
def c73:eP:=λargs U=>match args,U with
 |[.e (.bX (.c (.du a))),.e (.bX (.c (.du b)))],[]=>O (dB (qf a b),[],[a≠[],b≠[]])
 |_,_=>af
def t73:fp X 73 c73:=by
 intro args U res U' obs h ho;unfold c73 at h;split at h
 .cases h;exact UT _ _ ho.1 ho.2
 grind
def ct2:List (Nat×eP):=(71,c71)::(72,c72)::(73,c73)::ct1
def yI:b5 X ct2:=b5.cons t71 (b5.cons t72 (b5.cons t73 Jo))
def g9(t:List bF)(i:Nat):Bs:=(t.getD i ([],[])).1
def yq(t:List bF)(i:Nat):Bs:=(t.getD i ([],[])).2
def jH(t:List bF)(i:Nat):(t.getD i cF.cy).1=g9 t i:=rfl
def tY(t:List bF)(i:Nat):(t.getD i cF.cy).2=yq t i:=rfl
def jE(t:List bF)(i:Nat):Bool:=fT (g9 t i)&&fG (yq t i)&&(i==0||bC (g9 t (i-1)) (g9 t i))&&(bl i).all λj=>!qf (g9 t j) (g9 t i)
def cT(t:List bF):Bool:=(bl (V t)).all (jE t)&&decide (V t<=6)
def dG{p:Nat->Bool}:(bl n).all p=W↔∀i,i<n->p i=W:=az
def uT{s:Bs}(h:fT s=W):s≠[]:=by rintro rfl;exact j3
def oC{t:List bF}(hi:i<V t)(h:jE t i=ae):cT t=ae:=by
 cases a:cT t with
 |false=>rfl
 |true =>
  simp only[cT,cu]at a;grind
def Ej(t:List bF):Ev X 28 [cF.sl t] [] (dB (cT t)) []:=by
 refine Ev.bQ Tryz.func28 rfl λs=>?_;have p:=s.sl 0 Z;refine cp yI Z an (I.Bp (λi=>i<=V t/\∀j,j<i->jE t j=W) (λi:Nat=>[(0,cF.sl t),(3,dI i)]) (λ_=>[]) (λi=>V t-i) 0 Z Q1 ⟨by omega,by omega⟩ Z ?_);rintro i ⟨hi,l⟩;by_cases h:i<V t
 .by_cases b:fT (g9 t i)=W
  .by_cases c:fG (yq t i)=W
   .by_cases m:i=0∨bC (g9 t (i-1)) (g9 t i)=W
    .apply I.tG [(0,cF.sl t),(3,dI i),(4,dI 0)] []
     .intro hk;by_cases d:i=0
      .refine aY yI [(8,W),(16,W),(24,W),(29,ae)] Z ?_ (hk _ _ Z ?_)
       .simp[-aj,h,jH,tY,b,c];omega
       simp[eW]
      have g:=m.resolve_left d;have f:cd .i64 ((i:Int)-1):=j3;have n:((i:Int)-1).toNat=i-1:=aq;refine aY yI [(8,W),(16,W),(24,W),(29,W),(42,ae)] Z ?_ (hk _ _ Z ?_)
      .simp[-aj,h,jH,tY,b,c,g,f,n];omega
      simp[eW]
     ·
      have q:jE t i=(bl i).all (λj=>!qf (g9 t j) (g9 t i)):=by
       rcases m with rfl|g
       .simp[jE,b,c]
       simp[jE,b,c,g]
      refine I.Bp (λj=>j<=i/\∀r,r<j->qf (g9 t r) (g9 t i)=ae) (λj:Nat=>[(0,cF.sl t),(3,dI i),(4,dI j)]) (λ_=>[]) (λj=>i-j) 0 Z Q1 ⟨by omega,by omega⟩ Z ?_;rintro j ⟨v,u⟩;by_cases a:j<i
      .have k:fT (g9 t j)=W:=by have:=l j a;simp only[jE,cu]at this;exact this.1.1.1
       cases o:qf (g9 t j) (g9 t i)with
       |true =>
        refine aY yI [(47,W),(60,W)] Z ?_ (I.j5 (I.xe (cM.zero Z ?_)))
        .simp[-aj,h,a,jH,o,uT b,uT k];omega
        have:jE t i=ae:=az;simp[oC h this]
       |false =>
        refine aY yI [(47,W),(60,ae)] Z ?_ (I.again (j+1) Z ?_ ?_ ?_ Z)
        .simp[-aj,h,a,jH,o,uT b,uT k,cd];omega
        .simp[eW]
        .grind
        omega
      have a:j=i:=aq;subst a;refine aY yI [(47,ae)] Z ay (I.gE Z Z ?_);exact cp yI Z j3 (I.again (j+1) Z Q1 az aq Z)
    have d:i≠0:=λe=>m (.inl e);have g:bC (g9 t (i-1)) (g9 t i)=ae:=az;have f:cd .i64 ((i:Int)-1):=j3;have n:((i:Int)-1).toNat=i-1:=aq;refine aY yI [(8,W),(16,W),(24,W),(29,W),(42,W)] Z ?_ (I.j5 (cM.zero Z ?_))
    .simp[-aj,h,jH,tY,b,c,g,f,n];omega
    simp[aA,oC h (by simp[jE,d,g])]
   refine aY yI [(8,W),(16,W),(24,ae)] Z ?_ (I.j5 (cM.zero Z ?_))
   .simp[-aj,h,jH,tY,b,c]
   simp[aA,oC h (by simp[jE,c])]
  refine aY yI [(8,W),(16,ae)] Z ?_ (I.j5 (cM.zero Z ?_))
  .simp[-aj,h,jH,b]
  simp[aA,oC h (by simp[jE,b])]
 refine aY yI [(8,ae)] Z c6 (I.gE Z Z ?_);refine cp yI Z an (I.bE Z ?_);simp only[aA,cT];grind
end
section
open Go.Proofs Go.Conc.Lib
def wgL:WgLink:={add:=169,done:=171,wait:=173,relMerge:=204,disable:=205,enable:=206,inBubble:=207,associate:=208,fatal:=209,uOr:=210,uAdd:=211,raceRead:=212,uLoad:=213,uStore:=214,disassociate:=215,semrelease:=216,acquire:=218,isAssociated:=219,uCas:=220,raceWrite:=221,semacquire:=222,orU64:=239,addU64:=240,loadU64:=241,storeU64:=242,casU64:=245,tWgP:=276,tUP:=141,tAssoc:=278,tWg:=238,tAU:=236,tU64:=229,tUint:=159,tU32:=227,tPU32:=282,tPAU:=306,tPU64:=308,tNoCopy:=232,tANoCopy:=233,tAlign64:=234}
def Ix:WgLib ag wgL where
 f_add:=Tryz.func169.trans (et O bw)
 f_done:=Tryz.func171.trans (et O bw)
 f_wait:=Tryz.func173.trans (et O bw)
 f_relMerge:=Tryz.func204.trans (et O bw)
 f_disable:=Tryz.func205.trans (et O bw)
 f_enable:=Tryz.func206.trans (et O bw)
 f_inBubble:=Tryz.func207.trans (et O bw)
 f_associate:=Tryz.func208.trans (et O bw)
 f_fatal:=Tryz.func209.trans (et O bw)
 f_uOr:=Tryz.func210.trans (et O bw)
 f_uAdd:=Tryz.func211.trans (et O bw)
 f_raceRead:=Tryz.func212.trans (et O bw)
 f_uLoad:=Tryz.func213.trans (et O bw)
 f_uStore:=Tryz.func214.trans (et O bw)
 f_disassociate:=Tryz.func215.trans (et O bw)
 f_semrelease:=Tryz.func216.trans (et O bw)
 f_acquire:=Tryz.func218.trans (et O bw)
 f_isAssociated:=Tryz.func219.trans (et O bw)
 f_uCas:=Tryz.func220.trans (et O bw)
 f_raceWrite:=Tryz.func221.trans (et O bw)
 f_semacquire:=Tryz.func222.trans (et O bw)
 f_orU64:=Tryz.func239.trans (et O bw)
 f_addU64:=Tryz.func240.trans (et O bw)
 f_loadU64:=Tryz.func241.trans (et O bw)
 f_storeU64:=Tryz.func242.trans (et O bw)
 f_casU64:=Tryz.func245.trans (et O bw)
 underlying_tWgP:=Tryz.underlying276
 runUnderlying_tWgP:=Tryz.runUnderlying276
 sizeOf_tWgP:=Tryz.sizeOf276
 isAgg_tWgP:=Tryz.isAgg276
 zeroValue_tWgP:=Tryz.zeroValue276
 underlying_tUP:=Tryz.underlying141
 runUnderlying_tUP:=Tryz.runUnderlying141
 sizeOf_tUP:=Tryz.sizeOf141
 isAgg_tUP:=Tryz.isAgg141
 zeroValue_tUP:=Tryz.zeroValue141
 underlying_tI32:=Tryz.underlying278
 runUnderlying_tI32:=Tryz.runUnderlying278
 sizeOf_tI32:=Tryz.sizeOf278
 isAgg_tI32:=Tryz.isAgg278
 zeroValue_tI32:=Tryz.zeroValue278
 underlying_tWg:=Tryz.underlying238
 runUnderlying_tWg:=Tryz.runUnderlying238
 sizeOf_tWg:=Tryz.sizeOf238
 isAgg_tWg:=Tryz.isAgg238
 zeroValue_tWg:=Tryz.zeroValue238
 underlying_tAU:=Tryz.underlying236
 runUnderlying_tAU:=Tryz.runUnderlying236
 sizeOf_tAU:=Tryz.sizeOf236
 isAgg_tAU:=Tryz.isAgg236
 zeroValue_tAU:=Tryz.zeroValue236
 underlying_tU64:=Tryz.underlying229
 runUnderlying_tU64:=Tryz.runUnderlying229
 sizeOf_tU64:=Tryz.sizeOf229
 isAgg_tU64:=Tryz.isAgg229
 zeroValue_tU64:=Tryz.zeroValue229
 underlying_tSh:=Tryz.underlying159
 runUnderlying_tSh:=Tryz.runUnderlying159
 sizeOf_tSh:=Tryz.sizeOf159
 isAgg_tSh:=Tryz.isAgg159
 zeroValue_tSh:=Tryz.zeroValue159
 underlying_tU32:=Tryz.underlying227
 runUnderlying_tU32:=Tryz.runUnderlying227
 sizeOf_tU32:=Tryz.sizeOf227
 isAgg_tU32:=Tryz.isAgg227
 zeroValue_tU32:=Tryz.zeroValue227
 underlying_tPU32:=Tryz.underlying282
 runUnderlying_tPU32:=Tryz.runUnderlying282
 sizeOf_tPU32:=Tryz.sizeOf282
 isAgg_tPU32:=Tryz.isAgg282
 zeroValue_tPU32:=Tryz.zeroValue282
 underlying_tPAU:=Tryz.underlying306
 runUnderlying_tPAU:=Tryz.runUnderlying306
 sizeOf_tPAU:=Tryz.sizeOf306
 isAgg_tPAU:=Tryz.isAgg306
 zeroValue_tPAU:=Tryz.zeroValue306
 underlying_tPU64:=Tryz.underlying308
 runUnderlying_tPU64:=Tryz.runUnderlying308
 sizeOf_tPU64:=Tryz.sizeOf308
 isAgg_tPU64:=Tryz.isAgg308
 zeroValue_tPU64:=Tryz.zeroValue308
 underlying_t0:=Tryz.underlying0
 runUnderlying_t0:=Tryz.runUnderlying0
 sizeOf_t0:=Tryz.sizeOf0
 isAgg_t0:=Tryz.isAgg0
 zeroValue_t0:=Tryz.zeroValue0
 underlying_t3:=Tryz.underlying3
 runUnderlying_t3:=Tryz.runUnderlying3
 sizeOf_t3:=Tryz.sizeOf3
 isAgg_t3:=Tryz.isAgg3
 zeroValue_t3:=Tryz.zeroValue3
 underlying_t4:=Tryz.underlying4
 runUnderlying_t4:=Tryz.runUnderlying4
 sizeOf_t4:=Tryz.sizeOf4
 isAgg_t4:=Tryz.isAgg4
 zeroValue_t4:=Tryz.zeroValue4
 underlying_t9:=Tryz.underlying9
 runUnderlying_t9:=Tryz.runUnderlying9
 sizeOf_t9:=Tryz.sizeOf9
 isAgg_t9:=Tryz.isAgg9
 zeroValue_t9:=Tryz.zeroValue9
 underlying_t20:=Tryz.underlying20
 runUnderlying_t20:=Tryz.runUnderlying20
 sizeOf_t20:=Tryz.sizeOf20
 isAgg_t20:=Tryz.isAgg20
 zeroValue_t20:=Tryz.zeroValue20
 underlying_t21:=Tryz.underlying21
 runUnderlying_t21:=Tryz.runUnderlying21
 sizeOf_t21:=Tryz.sizeOf21
 isAgg_t21:=Tryz.isAgg21
 zeroValue_t21:=Tryz.zeroValue21
 room_tWg:=bw
 room_tU32:=bw
end
end R1
def cU.imp{d a:D}{ds MU:List D}(h:∀v,ey U s v d->ey U s v a)(k:∀vs,cU U s vs ds->cU U s vs MU):∀vs,cU U s vs (d::ds)->cU U s vs (a::MU)
 |[],r=>r.elim
 |v::vs,r=>⟨h v r.1,k vs r.2⟩
abbrev dP(f:bF):D:=.e (.agg [.c (.du f.1),.c (.du f.2)])
abbrev XP(a:List bF)(b:Bool):D:=.gI [.bX (.c (.sl ae 2 (V a) (cF.fn a))),.bX (.c (.bool b))]
namespace R1
variable {X:Cx ag}
def c28:eP:=λargs U=>match args,U with
 |[c],[]=>match mf 2 c with
  |none=>af
  |some (a,b)=>O (dB (cT (cF.cz a b)),[],[cF.pd a b])
 |_,_=>af
def t28:fp X 28 c28:=by
 intro args U res U' obs h ho;unfold c28 at h;split at h
 .split at h
  .cases h
  rename_i b c a;cases h;exact(Ej _ ).args (λ_ vs=>cU.imp (λ_=>cF.k8 a ho) (λ_ r=>r) vs)
 grind
def ct3:List (Nat×eP):=(28,c28)::ct2
def akI:b5 X ct3:=b5.cons t28 yI
end R1
def lX.cw(c:lX α)(l:List α)(x:α):eW (V l+1) (dv (V l) (c.fn l) (λi=>[c.enc x].getD i [])) (c.fn (l++[x])):=by intro i hi;unfold dv lX.fn Dk;grind
@[simp] theorem eW.same{f:Nat->List C}:eW n f f:=λ_ _=>rfl
@[simp] theorem eW.nil{f g:Nat->List C}:eW 0 f g:=λi h=>by omega
namespace R1
variable {X:Cx ag}
def pt(t:List bF)(p:Bs):List bF:=t.filter λf=>!(f.1==p)
def LR{t:List bF}{p:Bs}(h:i<V t):pt (t.take (i+1)) p=pt (t.take i) p++(if g9 t i=p then[]else[(g9 t i,yq t i)]):=by
 have e:t.getD i ([],[])=t[i]:=az;have a:(g9 t i,yq t i)=t[i]:=by simp only[g9,yq,e]
 rw[ET,bD h,a];simp only[pt,List.filter_append,Option.toList_some];grind
theorem PU(t:List bF)(p:Bs):V (pt t p)<=V t:=wz _ _
def NP(t:List bF)(p:Bs)(d:V t<=4000000):Ev X 115 [cF.sl t,dS p] [] (cF.sl (pt t p)) []:=by
 refine Ev.bQ Tryz.func115 rfl λf=>?_;refine bt Z an (I.jK 5 98 2 Z Z ?_);refine I.lQ (λi=>i<=V t) (λi:Nat=>[(0,cF.sl t),(1,dS p),(6,dI i),(5,.e (.bX (.dk 0 2 (V (pt (t.take i) p)) (cF.fn (pt (t.take i) p)))))]) (λi=>[.dk 98 2 (V (pt (t.take i) p)) (cF.fn (pt (t.take i) p))]) (λi=>V t-i) 0 Z ?_ Z ?_ aq ?_
 .simp[eW,pt]
 .simp[eW,pt]
 intro i hi;by_cases h:i<V t
 .have a:=LR (p:=p) h;have c:V (pt (t.take i) p)<=4000000:=by grind[PU]
  by_cases b:g9 t i=p
  .rw[bh b,iZ]at a;refine ba [(11,W),(20,ae)] Z ?_ (I.iD (i+1) Z ?_ Z ?_ ?_ ?_)
   .simp[-aj,h,jH,b,cd];omega
   .rw[a];simp[eW]
   .rw[a];simp[eW]
   .omega
   omega
  rw[bc b]at a;refine ba [(11,W),(20,W)] Z ?_ (I.iD (i+1) Z ?_ Z ?_ ?_ ?_)
  .simp[-aj,h,jH,b,cd,Ym];omega
  .rw[a];simp[-aj];exact cF.cw _ (g9 t i,yq t i)
  .rw[a];simp[-aj];exact cF.cw _ (g9 t i,yq t i)
  .omega
  omega
 have:i=V t:=aq;subst this;refine ba [(11,ae)] Z ay (I.gE Z Z ?_);refine bt Z an (I.bE Z ?_);simp[eW]
def ac7:eP:=λargs U=>match args,U with
 |[f,.e (.bX (.c (.du b)))],[]=>match mf 2 f with
  |none=>af
  |some (a,d)=>O (cF.sl (pt (cF.cz a d) b),[],[cF.pd a d,V ((cF.cz a d))<=4000000])
 |_,_=>af
def akJ:fp X 115 ac7:=by
 intro args U res U' obs h ho;unfold ac7 at h;split at h
 .split at h
  .cases h
  rename_i b c a;cases h;exact(NP _ _ (ho.2)).args (λ_ vs=>cU.imp (λ_=>cF.k8 a ho.1) (cU.imp (λ_ r=>r) (λ_ r=>r)) vs)
 grind
def ct5:List (Nat×eP):=(115,ac7)::ct3
def akK:b5 X ct5:=b5.cons akJ akI
end R1
def vA.Uy{args:List D}(h:vA args U)(k:Nat){cs:List A}(hk:args[k]?=O (.e (.agg cs)))(j:Nat){t:Bool}{q:Nat}(hj:cs[j]?=O (A.c (.sl t q n es))):n<=9223372036854775807:=by obtain⟨s,v,a⟩:=h.at hk;obtain⟨vs,_,h2⟩:=a;obtain⟨u,_,b⟩:=fD.get h2 hj;cases b<;>omega
namespace R1
def ij{p:Nat->Bool}(hi:i<n)(h:p i=ae):(bl n).all p=ae:=az
def iW{p:Nat->Bool}(a:∀j,j<i->p j=W)(h:p i=W):∀j,j<i+1->p j=W:=λj b=>by grind
end R1
def Tr.put(a b:Int):Tr->Tr
 |.nil=>.nd .nil a b .nil
 |.nd l x y r=>if a<x then .nd (l.put a b) x y r else if x<a then .nd l x y (r.put a b)else .nd l a b r
def Tr.cz:Tr->List (Int×Int)
 |.nil=>[]
 |.nd l x y r=>l.cz++(x,y)::r.cz
def Tr.find(n:Int):Tr->Int
 |.nil=>0
 |.nd l x y r=>if n=x then y else if n<x then l.find n else r.find n
namespace R1
theorem UN{l:List cX}{s:cX}(h:∀x∈l,x.1<s.1):iF l s=l++[s]:=by
 induction l with
 |nil=>rfl
 |cons y r a =>
  simp only[iF];grind
def Ji{l r:List cX}{s:cX}(h:∀x∈l,x.1<s.1):iF (l++r) s=l++iF r s:=by
 induction l with
 |nil=>rfl
 |cons y l a =>
  simp only[wG,iF];grind
def PN{l r:List cX}{s:cX}(h:∀x∈r,s.1<x.1):iF (l++r) s=iF l s++r:=by
 have e:r.filter (λz=>!(z.1==s.1))=r:=z0.2 λx a=>by grind
 induction l with
 |nil =>
  cases r with
  |nil=>rfl
  |cons y r =>
   have:=h y iL;simp only[pM,iF];grind
 |cons y l b =>
  simp only[wG,iF];grind
abbrev Tr.Ok(t:Tr):Prop:=t.cz.Pairwise λx y=>x.1<y.1
theorem Cw{a b:Int}:∀{t:Tr},Tr.Ok t->(t.put a b).cz=iF t.cz (a,b)
 |.nil,_=>rfl
 |.nd l x y r,h=>by
  obtain⟨j,g,f⟩:=mz.1 h;have k:=ju.1 g;have i:∀z∈l.cz,z.1<x:=λz c=>f z c (x,y) iL;simp only[Tr.put,Tr.cz];split
  .rename_i d;simp only[Tr.cz];rw[Cw (t:=l) j,PN (r:=(x,y)::r.cz)];grind
  split
  .rename_i _ d;simp only[Tr.cz];rw[Cw (t:=r) k.2,Ji (l:=l.cz) λz c=>by grind];simp only[iF];grind
  have e:a=x:=aq;subst e;simp only[Tr.cz];rw[Ji (l:=l.cz) λz c=>i z c];simp only[iF];rw[bc ay,ug,bc ay,z0.2 λz c=>by grind]
theorem Yq{l:List cX}{s:cX}(h:l.Pairwise λx y=>x.1<y.1):(iF l s).Pairwise (λx y=>x.1<y.1)/\∀z∈iF l s,z=s∨z∈l:=by
 induction l with
 |nil=>simp[iF]
 |cons y r b =>
  obtain⟨c,a⟩:=ju.1 h;obtain⟨d,i2⟩:=b a;simp only[iF];grind[List.pairwise_cons]
def yH{n:Int}:∀{t:Tr},Tr.Ok t->t.find n=ml t.cz n
 |.nil,_=>rfl
 |.nd l x y r,h=>by obtain⟨d,b,a⟩:=mz.1 h;have e:=ju.1 b;have f:∀z∈l.cz,z.1<x:=λz c=>a z c (x,y) iL;simp only[Tr.find,Tr.cz];have g:=yH (n:=n) (t:=l) d;have i2:=yH (n:=n) (t:=r) e.2;unfold ml at *;grind
end R1
namespace R1
section
variable {X:Cx ag}
def zt(f:bF)(ir:List bF×Bool)(g:Bs):List bF×Bool:=if ir.2=W then ir else if bC g f.1=W then ir else(ir.1++[f],W)
def Yv(f:bF)(a:List bF×Bool)(g:bF):List bF×Bool:=if g.1=f.1 then a else(a.1++[g],a.2)
def sj(f:bF)(ir:List bF×Bool)(g:bF):List bF×Bool:=Yv f (zt f ir g.1) g
def n8(f:bF)(t:List bF):List bF×Bool:=t.foldl (sj f) ([],ae)
def xJ(t:List bF)(f:bF):List bF:=if(n8 f t).2=W then(n8 f t).1 else(n8 f t).1++[f]
theorem qC{t:List bF}(h:i<V t):t[i]=(g9 t i,yq t i):=by have e:t.getD i ([],[])=t[i]:=az;simp only[g9,yq,e]
def Js{f:bF}{t:List bF}(h:i<V t):n8 f (t.take (i+1))=sj f (n8 f (t.take i)) (g9 t i,yq t i):=by rw[ET,bD h,qC h];simp[n8]
def Jt(f:bF)(ir:List bF×Bool)(g:Bs):(zt f ir g).1.length<=V ir.1+1:=MH
def U1(f:bF)(ir:List bF×Bool)(g:bF):(Yv f ir g).1.length<=V ir.1+1:=by unfold Yv;grind
def CE(f:bF):∀(t:List bF)(ir:List bF×Bool),(t.foldl (sj f) ir).1.length<=V ir.1+2*V t
 |[],ir=>by simp
 |g::r,ir=>by
  have c:=CE f r (sj f ir g);have b:=Jt f ir g.1;have a:=U1 f (zt f ir g.1) g;simp only[jw,eU];have:(sj f ir g).1.length<=V ir.1+2:=by unfold sj;omega
  omega
abbrev dV(l:Nat)(t:List bF):D:=.e (.bX (.dk l 2 (V t) (cF.fn t)))
abbrev bV(t:List bF):bq:=.dk 98 2 (V t) (cF.fn t)
def Yw(t:List bF)(f:bF)(r:V t<=4000000):Ev X 117 [cF.sl t,dP f] [] (dV 0 (xJ t f)) [bV (xJ t f)]:=by
 refine Ev.bQ Tryz.func117 rfl λs=>?_;refine bt Z an (I.jK 5 98 2 Z Z ?_);let A:Nat->List bF×Bool:=λi=>n8 f (t.take i);have a:∀i,i<=V t->(A i).1.length<=8000000:=by intro i hi;have:=CE f (t.take i) ([],ae);simp at this;show(n8 f (t.take i)).1.length<=_;unfold n8;omega
 refine I.lQ (λi=>i<=V t) (λi:Nat=>[(0,cF.sl t),(3,cE 0 0),(7,dI i),(5,dV 1 (A i).1),(6,dB (A i).2)]) (λi=>[.cells 98 [.c (.du f.1),.c (.du f.2)],bV (A i).1]) (λi=>V t-i) 0 Z ?_ Z ?_ aq ?_
 .simp[eW,A,n8]
 .simp[eW,A,n8]
 intro i hi;by_cases h:i<V t
 .have p:A (i+1)=sj f (A i) (g9 t i,yq t i):=Js h;have n:=a i hi;generalize A i=ir at *;have q:=Jt f ir (g9 t i);apply I.tG [(0,cF.sl t),(3,cE 0 0),(7,dI i),(5,dV 1 (zt f ir (g9 t i)).1),(6,dB (zt f ir (g9 t i)).2)] [.cells 98 [.c (.du f.1),.c (.du f.2)],bV (zt f ir (g9 t i)).1]
  .intro hk;cases b:ir.2 with
   |true =>
    have g:zt f ir (g9 t i)=ir:=MH;rw[g]at hk;refine bM [(12,W),(15,W),(1000009,W)] Z kT (hk _ _ Z ?_);exact c9
   |false =>
    cases j:bC (g9 t i) f.1 with
    |true =>
     have g:zt f ir (g9 t i)=ir:=MH;rw[g]at hk;refine bM [(12,W),(15,ae),(25,ae),(1000009,W)] Z ?_ (hk _ _ Z ?_)
     .simp[-aj,h,jH,j]
     exact c9
    |false =>
     have g:zt f ir (g9 t i)=(ir.1++[f],W):=MH;rw[g]at hk;refine bM [(12,W),(15,ae),(25,W),(1000009,W)] Z ?_ (I.kR _ Z ?_ (hk _ _ Z ?_))
     .simp[-aj,h,jH,j,Ym];omega
     .simp[-aj];exact cF.cw _ f
     simp[-aj];exact cF.cw _ f
  have k:A (i+1)=Yv f (zt f ir (g9 t i)) (g9 t i,yq t i):=p;generalize zt f ir (g9 t i)=a1 at *;by_cases l:g9 t i=f.1
  .have d:A (i+1)=a1:=by rw[k];exact bh l
   refine bM [(38,ae)] Z ?_ (I.iD (i+1) Z ?_ Z ?_ ?_ ?_)
   .simp[-aj,h,jH,l,cd];omega
   .simp_all
   .simp_all
   .omega
   omega
  have d:A (i+1)=(a1.1++[(g9 t i,yq t i)],a1.2):=by rw[k];exact bc l
  refine bM [(38,W)] Z ?_ (I.iD (i+1) Z ?_ Z ?_ ?_ ?_)
  .simp[-aj,h,jH,l,cd,Ym];omega
  .rw[d];simp[-aj];exact cF.cw _ (g9 t i,yq t i)
  .rw[d];simp[-aj];exact cF.cw _ (g9 t i,yq t i)
  .omega
  omega
 have:i=V t:=aq;subst this;have o:A (V t)=n8 f t:=az;have n:=a (V t) (bm _);refine ba [(12,ae)] Z ay (I.gE Z Z ?_);have m:xJ t f=if(A (V t)).2=W then(A (V t)).1 else(A (V t)).1++[f]:=wj;cases b:(A (V t)).2 with
 |true =>
  rw[b,bh Z]at m;refine ba [(46,W)] Z ay (I.kR [.cells 98 [.c (.du f.1),.c (.du f.2)],bV (xJ t f)] Z fC (I.dt [1] Z fC Z Z Z ?_));grind
 |false =>
  rw[b,bc ay]at m;refine ba [(46,ae)] Z ?_ (I.kR [.cells 98 [.c (.du f.1),.c (.du f.2)],bV (xJ t f)] Z ?_ (I.dt [1] Z ?_ Z Z Z ?_))
  .simp[Ym];omega
  .rw[m];simp[-aj];exact cF.cw _ f
  .rw[m];simp[-aj];exact cF.cw _ f
  grind
end
end R1
def eW.app0{f g:Nat->List C}:eW n (dv 0 f g) g:=λi _=>by simp[dv]
namespace R1
variable {X:Cx ag}
def ac8:eP:=λargs U=>match args,U with
 |[d,.e (.agg [.c (.du b0),.c (.du b1)])],[]=>match mf 2 d with
  |none=>af
  |some (a,b)=>O (dV 0 (xJ (cF.cz a b) (b0,b1)) ,[ bV (xJ (cF.cz a b) (b0,b1))],[cF.pd a b,V ((cF.cz a b))<=4000000])
 |_,_=>af
def akL:fp X 117 ac8:=by
 intro args U res U' obs h ho;unfold ac8 at h;split at h
 .split at h
  .cases h
  rename_i b c a;cases h;exact(Yw _ _ (ho.2)).args (λ_ vs=>cU.imp (λ_=>cF.k8 a ho.1) (cU.imp (λ_ r=>r) (λ_ r=>r)) vs)
 cases h
def ct6:List (Nat×eP):=(117,ac8)::ct5
def PV:b5 X ct6:=b5.cons akL (akK)
def fW(t:List bF)(p x:Bs):List bF×Bool :=
 if cT t=W/\fT p=W/\fG x=W then(if cT (xJ t (p,x))=W then(xJ t (p,x),W)else(t,ae))else([],ae)
abbrev tVB(l:Nat)(t:List bF)(b:Bool):D:=.gI [.bX (.dk l 2 (V t) (cF.fn t)),.bX (.c (.bool b))]
def pr{t:List bF}(h:cT t=W):V t<=6:=by simp only[cT,cu,bu]at h;omega
def zl(t:List bF)(p x:Bs):Ev X 65 [cF.sl t,dS p,dS x] [] (tVB 0 (fW t p x).1 (fW t p x).2) [bV (fW t p x).1]:=by
 refine Ev.bQ Tryz.func65 rfl λg=>?_;have EB:¬(cT t=W/\fT p=W/\fG x=W)->fW t p x=([],ae):=λh=>bc h;cases a:cT t with
 |false =>
  rw[EB az];refine aY PV [(10,ae)] Z ?_ ?_
  .simp[cF.aw,cF.aE,a]
  refine I.jK 6 98 2 Z Z (I.kR [bV []] Z ay (I.dt [0] Z ay Z Z Z ?_));grind
 |true =>
  have f:=pr a;cases b:fT p with
  |false =>
   rw[EB az];refine aY PV [(10,W),(14,ae)] Z ?_ ?_
   .simp[cF.aw,cF.aE,a,b]
   refine I.jK 6 98 2 Z Z (I.kR [bV []] Z ay (I.dt [0] Z ay Z Z Z ?_));grind
  |true =>
   cases c:fG x with
   |false =>
    rw[EB az];refine aY PV [(10,W),(14,W),(19,ae)] Z ?_ ?_
    .simp[cF.aw,cF.aE,a,b,c]
    refine I.jK 6 98 2 Z Z (I.kR [bV []] Z ay (I.dt [0] Z ay Z Z Z ?_));grind
   |true =>
    have d:fW t p x=if cT (xJ t (p,x))=W then(xJ t (p,x),W)else(t,ae):=bh ⟨a,b,c⟩;cases e:cT (xJ t (p,x))with
    |true =>
     rw[e,bh Z]at d;rw[d];refine aY PV [(10,W),(14,W),(19,W),(29,W)] Z ?_ (I.kR [bV (xJ t (p,x))] Z ?_ (I.dt [0] Z ?_ Z Z Z ?_))
     .simp[cF.aw,cF.aE,a,b,c,e];omega
     .simp[cF.aw]
     .simp[cF.aw]
     grind
    |false =>
     rw[e,bc ay]at d;rw[d];refine aY PV [(10,W),(14,W),(19,W),(29,ae)] Z ?_ (I.kR [bV (xJ t (p,x)),bV t] Z ?_ (I.dt [1] Z ?_ Z Z Z ?_))
     .simp[cF.aw,cF.aE,a,b,c,e,Ym];omega
     .simp[cF.aw,eW.app0]
     .simp[eW.app0]
     grind
def BZ(t:List bF)(p x:Bs):Ev X 65 [cF.sl t,dS p,dS x] [] (XP (fW t p x).1 (fW t p x).2) [] :=
 (zl t p x).jz Z ay Z
def c65:eP:=λargs U=>match args,U with
 |[f,.e (.bX (.c (.du b))),.e (.bX (.c (.du c)))],[]=>match mf 2 f with
  |none=>af
  |some (a,d)=>O (XP (fW (cF.cz a d) b c).1 (fW (cF.cz a d) b c).2,[],[cF.pd a d])
 |_,_=>af
def t65:fp X 65 c65:=by
 intro args U res U' obs h ho;unfold c65 at h;split at h
 .split at h
  .cases h
  rename_i b c a;cases h;exact(BZ _ _ _ ).args (λ_ vs=>cU.imp (λ_=>cF.k8 a ho) (cU.imp (λ_ r=>r) (cU.imp (λ_ r=>r) (λ_ r=>r))) vs)
 cases h
def ct7:List (Nat×eP):=(65,c65)::ct6
def akN:b5 X ct7:=b5.cons t65 (PV)
end R1
def O4(cs:List C)(j:Nat):Nat×(Nat->List C):=match eH j cs with|some (.sl _ _ n es)=>(n,es)|_=>(0,λ_=>[])
def cI:lX Int:={k:=1,enc:=λn=>[.int .i64 n],Kd:=λcs=>BL cs 0,cy:=0,inv:=λ_=>rfl,len:=λ_=>rfl}
def cS:lX Bs:={k:=1,enc:=λs=>[.du s],Kd:=λcs=>Ir cs 0,cy:=[],inv:=λ_=>rfl,len:=λ_=>rfl}
namespace R1
def fO:lX bJ:={k:=2,enc:=λx=>[.int .i64 x.1,.du x.2],Kd:=λcs=>(BL cs 0,Ir cs 1),cy:=(0,[]),inv:=λ_=>rfl,len:=λ_=>rfl}
def sS:lX cX:={k:=2,enc:=λx=>[.int .i64 x.1,.int .i64 x.2],Kd:=λcs=>(BL cs 0,BL cs 1),cy:=(0,0),inv:=λ_=>rfl,len:=λ_=>rfl}
abbrev sP(p:bz):C:=.sl ae 2 (V p.2) (fO.fn p.2)
def cP:lX bz:={k:=2,enc:=λp=>[.int .i64 p.1,sP p],Kd:=λcs=>(BL cs 0,fO.cz (O4 cs 1).1 (O4 cs 1).2),cy:=(0,[]),inv:=λp=>by show(p.1,fO.cz (V p.2) (fO.fn p.2))=p;rw[fO.aw],len:=λ_=>rfl}
def cL:lX iU:={k:=2,enc:=λx=>[.du x.1,.sl ae 1 (V x.2) (cI.fn x.2)],Kd:=λcs=>(Ir cs 0,cI.cz (O4 cs 1).1 (O4 cs 1).2),cy:=([],[]),inv:=λp=>by show(p.1,cI.cz (V p.2) (cI.fn p.2))=p;rw[cI.aw],len:=λ_=>rfl}
def dY:lX dn:={k:=2,enc:=λx=>[.int .i64 x.1,.sl ae 2 (V x.2) (cL.fn x.2)],Kd:=λcs=>(BL cs 0,cL.cz (O4 cs 1).1 (O4 cs 1).2),cy:=(0,[]),inv:=λp=>by show(p.1,cL.cz (V p.2) (cL.fn p.2))=p;rw[cL.aw],len:=λ_=>rfl}
def cH:lX (Int×Int):=sS
abbrev vN(p:bz):D:=.e (.agg [.c (.int .i64 p.1),.c (sP p)])
abbrev dFe(r:Option Bs):D:=.e (.agg [.c (.du (r.getD [])),.c (.bool r.isSome)])
end R1
structure Is(α:Type) where
 enc:α->D
 arg:D->Option (α×List Prop)
 ok:∀{d a o},arg d=O (a,o)->aA o->∀{U:List bq} {s:St} {v:ah},ey U s v d->ey U s v (enc a)
def aI:Is Int:=⟨dI,λd=>match d with|.e (.bX (.c (.int .i64 n)))=>O (n,[])|_=>af,λ{d a o} h _ _ _ _ r=>by grind⟩
def aS:Is Bs:=⟨dS,λd=>match d with|.e (.bX (.c (.du n)))=>O (n,[])|_=>af,λ{d a o} h _ _ _ _ r=>by grind⟩
def aL(c:lX α):Is (List α):=⟨c.sl,λd=>match mf c.k d with|some (n,es)=>O (c.cz n es,[c.pd n es])|none=>af,λ{d a o} h ho _ _ _ r=>by
 split at h
 .rename_i n es he;cases h;exact c.k8 he ho r
 .cases h⟩
def aIS:Is (Int×Bs):=⟨λx=>.e (.agg [.c (.int .i64 x.1),.c (.du x.2)]),λd=>match d with|.e (.agg [.c (.int .i64 a),.c (.du b)])=>O ((a,b),[])|_=>af,λ{d a o} h _ _ _ _ r=>by grind⟩
def aII:Is (Int×Int):=⟨λx=>.e (.agg [.c (.int .i64 x.1),.c (.int .i64 x.2)]),λd=>match d with|.e (.agg [.c (.int .i64 a),.c (.int .i64 b)])=>O ((a,b),[])|_=>af,λ{d a o} h _ _ _ _ r=>by grind⟩
def Iq(c:lX α):Is (Int×List α):=⟨λx=>.e (.agg [.c (.int .i64 x.1),.c (.sl ae c.k (V x.2) (c.fn x.2))]),λd=>match d with
 |.e (.agg [.c (.int .i64 a),.c b])=>match mf c.k (.e (.bX (.c b)))with|some (n,es)=>O ((a,c.cz n es),[c.pd n es])|none=>af
 |_=>af,λ{d a o} h ho _ s _ r=>by
 split at h
 .split at h
  .rename_i n es he;cases h;obtain⟨vs,l,g⟩:=r
   match vs,g with
   |[],g=>exact g.elim
   |[_],g=>exact g.2.elim
   |_::_::_::_,g=>exact g.2.2.elim
   |[p,m],g=>exact⟨_,l,g.1,c.k8 (U:=[]) (s:=s) (v:=m) he ho g.2.1,an⟩
  cases h
 .cases h⟩
def lW(A:Is α)(res:α->D)(pre:α->List Prop):eP:=λargs U=>match args,U with
 |[d],[]=>match A.arg d with
  |some (a,o)=>O (res a,[],mH o (pre a))
  |none=>af
 |_,_=>af
def qb{i:Type}(A:Is α)(B:Is i)(res:α->i->D)(pre:α->i->List Prop):eP:=λargs U=>match args,U with
 |[d,e],[]=>match A.arg d with
  |some (a,o)=>match B.arg e with
   |some (b,p)=>O (res a b,[],mH o (mH p (pre a b)))
   |none=>af
  |none=>af
 |_,_=>af
def Kc{i j:Type}(A:Is α)(B:Is i)(C:Is j)(res:α->i->j->D)(pre:α->i->j->List Prop):eP:=λargs U=>match args,U with
 |[d,e,f],[]=>match A.arg d with
  |some (a,o)=>match B.arg e with
   |some (b,p)=>match C.arg f with
    |some (c,q)=>O (res a b c,[],mH o (mH p (mH q (pre a b c))))
    |none=>af
   |none=>af
  |none=>af
 |_,_=>af
section
variable {X:Cx P}{f:aO}{i j:Type}{A:Is α}{B:Is i}{C:Is j}
def fp.rl{res:α->D}{pre:α->List Prop}(h:∀a,aA (pre a)->Ev X f [A.enc a] [] (res a) []):fp X f (lW A res pre):=by
 intro args U r U' obs h1 ho;unfold lW at h1;split at h1
 .split at h1
  .rename_i d a o b;cases h1;rw[aA.eu]at ho;exact(h a ho.2).args λs vs=>cU.imp (λ_ r=>A.ok b ho.1 r) (λ_ r=>r) vs
  cases h1
 cases h1
def fp.s9{res:α->i->D}{pre:α->i->List Prop}(h:∀a b,aA (pre a b)->Ev X f [A.enc a,B.enc b] [] (res a b) []):fp X f (qb A B res pre):=by
 intro args U r U' obs h1 ho;unfold qb at h1;split at h1
 .split at h1
  .rename_i d e a o c;split at h1
   .rename_i b p hb;cases h1;rw[aA.eu,aA.eu]at ho;exact(h a b ho.2.2).args λs vs=>cU.imp (λ_ r=>A.ok c ho.1 r) (cU.imp (λ_ r=>B.ok hb ho.2.1 r) (λ_ r=>r)) vs
   cases h1
  cases h1
 cases h1
def fp.QD{res:α->i->j->D}{pre:α->i->j->List Prop}(h:∀a b c,aA (pre a b c)->Ev X f [A.enc a,B.enc b,C.enc c] [] (res a b c) []):fp X f (Kc A B C res pre):=by
 intro args U r U' obs h1 ho;unfold Kc at h1;split at h1
 .split at h1
  .rename_i d e g a o l;split at h1
   .rename_i b p hb;split at h1
    .rename_i c q k;cases h1;rw[aA.eu,aA.eu,aA.eu]at ho;exact(h a b c ho.2.2.2).args λs vs=>cU.imp (λ_ r=>A.ok l ho.1 r) (cU.imp (λ_ r=>B.ok hb ho.2.1 r) (cU.imp (λ_ r=>C.ok k ho.2.2.1 r) (λ_ r=>r))) vs
    cases h1
   cases h1
  cases h1
 cases h1
end
namespace R1
def mi(a:List D)(res:D):eP:=λargs U=>match U with|[]=>O (res,[],[args=a])|_=>af
def mL{X:Cx ag}{f:aO}{a:List D}{res:D}(h:Ev X f a [] res []):fp X f (mi a res):=by
 intro args U r U' obs he ho;unfold mi at he;split at he
 .cases he;simp_all
 cases he
def vg(a:List D)(U0:List bq)(res:D)(σ1:List bq):eP:=λargs U=>O (res,σ1,[args=a,U=U0])
def vh{X:Cx ag}{f:aO}{a:List D}{U0 σ1:List bq}{res:D}(h:Ev X f a U0 res σ1):fp X f (vg a U0 res σ1):=by intro args U r U' obs he ho;cases he;simp_all
end R1
def Pe(M:Mem):List ah->List C->Prop
 |[],[]=>True
 |v::vs,c::cs=>Rd M v c/\Pe M vs cs
 |_,_=>False
structure FA(α:Type) where
 enc:α->List C
 Kd:List C->Option (α×List Prop×List C)
 ok:∀{cs a o r},Kd cs=O (a,o,r)->aA o->∀{M:Mem} {vs:List ah},Pe M vs cs->∃v1 v2,vs=v1++v2/\Pe M v1 (enc a)/\Pe M v2 r
def Pe.app{M:Mem}:∀{v1 v2:List ah}{c1 c2:List C},Pe M v1 c1->Pe M v2 c2->Pe M (v1++v2) (c1++c2)
 |[],_,[],_,_,h=>h
 |_::_,_,_::_,_,h1,h2=>⟨h1.1,h1.2.app h2⟩
 |[],_,_::_,_,h,_=>h.elim
 |_::_,_,[],_,h,_=>h.elim
def Pe.bX{c:C}{r:List C}(h:Pe M vs (c::r)):∃v a,vs=v::a/\Rd M v c/\Pe M a r:=by
 cases vs with
 |nil=>exact h.elim
 |cons v vs=>exact⟨v,vs,rfl,h⟩
def fL(c:lX α):FA (List α):=⟨λl=>[.sl ae c.k (V l) (c.fn l)],λcs=>match cs with
 |d::r=>match mf c.k (.e (.bX (.c d)))with|some (n,es)=>O (c.cz n es,[c.pd n es],r)|none=>af
 |_=>af,λ{cs a o r} h ho M vs hr=>by
 split at h
 .split at h
  .rename_i n es he;cases h;obtain⟨v,b,rfl,g,f⟩:=hr.bX;exact⟨[v],b,Z,⟨c.k8 (U:=[]) (s:=⟨[],M,default,λ_=>True⟩) (v:=v) he ho g,an⟩,f⟩
  cases h
 .cases h⟩
def fP{c:Type}(A:FA α)(B:FA c):FA (α×c):=⟨λx=>A.enc x.1++B.enc x.2,λcs=>match A.Kd cs with
 |some (a,o,r)=>match B.Kd r with|some (b,p,q)=>O ((a,b),mH o p,q)|none=>af
 |none=>af,λ{cs a o r} h ho M vs hr=>by
 split at h
 .rename_i j;split at h
  .rename_i d;cases h;rw[aA.eu]at ho;obtain⟨v1,k,rfl,g,g2⟩:=A.ok j ho.1 hr;obtain⟨i,v4,rfl,e,f⟩:=B.ok d ho.2 g2;exact⟨v1++i,v4,(lZ _ _ _).symm,g.app e,f⟩
  cases h
 .cases h⟩
def unC:List A->Option (List C)
 |[]=>O []
 |.c x::r=>match unC r with|some q=>O (x::q)|none=>af
 |_=>af
def reA:List C->List A
 |[]=>[]
 |x::r=>.c x::reA r
def TQ{U:List bq}{s:St}:∀{cs:List A}{q:List C}{vs:List ah},unC cs=O q->fD U s vs cs->Pe s.M vs q
 |[],q,vs,h,a=>by cases h;cases vs with|nil=>trivial|cons=>exact a.elim
 |.c x::r,q,vs,h,a=>by
  simp only[unC]at h;split at h
  .rename_i b;cases h;cases vs with
   |nil=>exact a.elim
   |cons v vs=>exact⟨a.1,TQ b a.2⟩
  cases h
 |.ptr ..::_,_,_,h,_=>by cases h
 |.dk ..::_,_,_,h,_=>by cases h
 |.oY ..::_,_,_,h,_=>by cases h
 |.bp ..::_,_,_,h,_=>by cases h
 |.any::_,_,_,h,_=>by cases h
def TR{U:List bq}{s:St}:∀{q:List C}{vs:List ah},Pe s.M vs q->fD U s vs (reA q)
 |[],[],_=>trivial
 |_::_,_::_,h=>⟨h.1,TR h.2⟩
 |[],_::_,h=>h.elim
 |_::_,[],h=>h.elim
def aAg(F:FA α):Is α:=⟨λa=>.e (.agg (reA (F.enc a))),λd=>match d with
 |.e (.agg xs)=>match unC xs with
  |some cs=>match F.Kd cs with|some (a,o,[])=>O (a,o)|_=>af
  |none=>af
 |_=>af,λ{d a o} h ho U s v r=>by
 split at h
 .split at h
  .rename_i i;split at h
   .rename_i c;cases h;obtain⟨vs,rfl,b⟩:=r;obtain⟨v1,g,rfl,f,g2⟩:=F.ok c ho (TQ i b);cases g with
    |nil=>exact⟨v1,by simp,TR f⟩
    |cons=>exact g2.elim
   cases h
  cases h
 .cases h⟩
namespace R1
section
variable {X:Cx ag}
def Ts(k:Int):Ev X 55 [dI k] [] (dB (cN k)) []:=by
 refine Ev.bQ Tryz.func55 rfl λc=>?_;by_cases a:1<=k
 .by_cases b:k<=99
  .refine ba [(4,W),(7,W)] Z c9 (I.bE Z ?_);simp[cN,a,b]
  refine ba [(4,W),(7,ae)] Z c9 (I.bE Z ?_);simp[cN,a,b]
 refine ba [(4,ae)] Z c6 (I.bE Z ?_);simp[cN,a]
def t55:fp X 55 (lW aI (λk=>dB (cN k)) λ_=>[]):=.rl λk _=>Ts k
def Ge{s:Bs}(h:i<V s):cV (s.take (i+1))=(cV (s.take i)&&iG (s.getD i 0)):=by unfold cV;grind[List.take_add_one]
def tP{b:UInt8}:iG b=W↔97<=(b.toNat:Int)/\(b.toNat:Int)<=122:=by simp[iG];omega
def BF{s:Bs}(h:i<V s)(b:iG (s.getD i 0)=ae):cV s=ae:=by
 cases a:cV s with
 |false=>rfl
 |true =>
  have:=bL.1 a (s.getD i 0) az;grind
def Ik(s:Bs):Ev X 136 [dS s] [] (dB (cV s)) []:=by
 refine Ev.bQ Tryz.func136 rfl λg=>?_;have f:=g.du 0 Z;refine bt Z an (I.Bp (λi=>i<=V s/\cV (s.take i)=W) (λi:Nat=>[(0,dS s),(5,dI (V s)),(6,dI i)]) (λ_=>[]) (λi=>V s-i) 0 Z ay ⟨by omega,by simp[cV]⟩ Z ?_);rintro i ⟨hi,b⟩;by_cases h:i<V s
 .by_cases a:dM s i<97
  .refine ba [(7,W),(12,W)] Z ?_ (I.j5 (cM.zero Z ?_))
   .simp[-aj,h,fK,a]
   have:iG (s.getD i 0)=ae:=by
    cases d:iG (s.getD i 0)with
    |false=>rfl
    |true=>have:=tP.1 d;unfold dM at a;omega
   simp[BF h this]
  by_cases c:dM s i<=122
  .refine ba [(7,W),(12,ae),(17,ae)] Z ?_ (I.again (i+1) Z ?_ ?_ ?_ Z)
   .simp[-aj,h,fK,a,c,cd];grind
   .simp
   .refine⟨by omega,?_⟩;rw[Ge h,b,gy];exact tP.2 (by unfold dM at a c;omega)
   omega
  refine ba [(7,W),(12,ae),(17,W)] Z ?_ (I.j5 (cM.zero Z ?_))
  .simp[-aj,h,fK,a];grind
  have:iG (s.getD i 0)=ae:=by
   cases d:iG (s.getD i 0)with
   |false=>rfl
   |true=>have:=tP.1 d;unfold dM at c;omega
  simp[BF h this]
 have e:i=V s:=aq;subst e;refine ba [(7,ae)] Z ay (I.gE Z Z ?_);refine bt Z an (I.bE Z ?_);simp_all
def afm:fp X 136 (lW aS (λs=>dB (cV s)) λ_=>[]):=.rl λk _=>Ik k
abbrev tb1:List (Nat×eP):=[(55,lW aI (λk=>dB (cN k)) λ_=>[]),(136,lW aS (λs=>dB (cV s)) λ_=>[])]
def ck1:b5 X tb1:=.cons t55 (.cons afm .nil)
def Il(p:Bs):Ev X 193 [dS p] [] (dB (bH p)) []:=by
 refine Ev.bQ Tryz.func193 rfl λc=>?_;by_cases a:1<=V p
 .by_cases b:V p<=8
  .refine aY ck1 [(5,W),(9,W),(11,W)] Z c6 (I.bE Z ?_);simp[bH,a,b]
  refine aY ck1 [(5,W),(9,ae),(11,ae)] Z c6 (I.bE Z ?_);simp[bH,a,b]
 refine aY ck1 [(5,ae),(11,ae)] Z c6 (I.bE Z ?_);simp[bH,a]
def acb:fp X 193 (lW aS (λs=>dB (bH s)) λ_=>[]):=.rl λk _=>Il k
def Im(n:Nat)(h:n<=4000000):Ev X 195 [dI n] [] (dI (dW n)) []:=by
 refine Ev.bQ Tryz.func195 rfl λe=>?_;by_cases c:n<1
 .refine ba [(5,W),(9,W)] Z c6 (I.bE Z ?_);simp[dW,c]
 by_cases b:8<n
 .refine ba [(5,ae),(8,W)] Z c6 (I.bE Z ?_);simp[dW,b]
 refine ba [(5,ae),(8,ae)] Z c6 ?_;have d:dW n=2∨dW n=4∨dW n=8:=Q3;refine I.Bp (λi:Nat=>(i=2∨i=4∨i=8)/\i<=dW n) (λi:Nat=>[(0,dI n),(3,dI i)]) (λ_=>[]) (λi=>8-i) 2 Z ay ⟨by simp,by omega⟩ Z ?_;rintro i ⟨hi,a⟩;by_cases h:i<n
 .exact ba [(12,W)] Z KE (I.again (2*i) Z c6 Rw aq Z)
 refine ba [(12,ae)] Z c6 (I.gE Z Z ?_);refine bt Z an (I.bE Z ?_);have:i=dW n:=Rw;simp[this]
theorem Lh(s:Bs)(b:UInt8):gQ (s++[b])=if b=46 then gQ s else s++[b]:=by unfold gQ;grind[List.dropWhile_cons]
def BG{s:Bs}(h:n<V s):gQ (s.take (n+1))=if s.getD n 0=46 then gQ (s.take n)else s.take (n+1):=by grind[List.take_add_one,Lh]
theorem Io(s:Bs):Ev X 262 [dS s,dU 46] [] (dS (gQ s)) []:=by
 refine Ev.bQ Tryz.func262 rfl λi=>?_;have g:=i.du 0 Z;refine bt Z an (I.Bp (λn=>n<=V s/\gQ (s.take n)=gQ s) (λn:Nat=>[(0,dS (s.take n)),(1,dU 46)]) (λ_=>[]) (λn=>n) (V s) Z ay ⟨by omega,by simp⟩ Z ?_);rintro n ⟨k,a⟩;cases n with
 |zero =>
  refine ba [(7,ae),(16,ae)] Z ay (I.gE Z Z ?_);refine bt Z an (I.bE Z ?_);have:gQ s=[]:=by rw[<-a];rfl
  simp[this]
 |succ n =>
  have d:V (s.take (n+1))=n+1:=az;have f:dM (s.take (n+1)) n=dM s n:=by simp[dM,aj,hU]
  have j:=BG (s:=s) (n:=n) aq;have b:((n:Int)+1-1).toNat=n:=aq;by_cases h:s.getD n 0=46
  .refine ba [(7,W),(15,W),(16,W)] Z ?_ (I.again n Z ?_ ?_ ?_ Z)
   .have c:dM s n=46:=by unfold dM;exact ek
    simp[-aj,-List.length_take,d,fK,b,f,c,cd];omega
   .simp;show(s.take (n+1)).take _=_;grind
   .grind
   simp
  refine ba [(7,W),(15,ae),(16,ae)] Z ?_ (I.gE Z Z ?_)
  .have c:dM s n≠46:=by unfold dM;intro e;exact h (wx.1 az)
   simp[-aj,-List.length_take,d,fK,b,f,c,cd];omega
  refine bt Z an (I.bE Z ?_);rw[j,bc h]at a;simp[a]
def afn:eP:=λargs U=>match args,U with
 |[.e (.bX (.c (.du s))),.e (.bX (.c (.int .u8 46)))],[]=>O (dS (gQ s),[],[])
 |_,_=>af
def afo:fp X 262 afn:=by intro args U res U' obs h _;unfold afn at h;grind[Io]
theorem XH(s:Bs):Ev X 248 [dS s,dS [46]] [] (dS (gQ s)) []:=by
 refine Ev.bQ Tryz.func248 rfl λb=>?_;by_cases h:s=[]
 .subst h;refine aY (b5.cons afo .nil) [(8,W),(12,W)] Z ay (I.bE Z ?_);exact ek
 refine aY (b5.cons afo .nil) [(8,ae),(11,ae),(12,ae),(16,W),(20,W),(21,W)] Z ?_ (I.bE Z);cases s with
 |nil=>grind
 |cons a r=>simp;decide
def acd:eP:=λargs U=>match args,U with
 |[.e (.bX (.c (.du s))),.e (.bX (.c (.du [46])))],[]=>O (dS (gQ s),[],[])
 |_,_=>af
def ajf:fp X 248 acd:=by intro args U res U' obs h _;unfold acd at h;grind[XH]
def zc{p:Bs}(h:i<V p):gq (p.take (i+1))=27*gq (p.take i)+(dM p i-97) % 256+1:=by unfold gq;rw[ET,bD h];simp only[z8,Option.toList_some,jw,List.foldl_nil,dM,aj,bD h,iY]
def mg{p:Bs}(h:bH p=W)(hi:i<=V p):0<=gq (p.take i)/\gq (p.take i)<282429536481:=by simp only[bH,cu,bu]at h;obtain⟨a,q2⟩:=BH (p.take i) 0 1 0 (λb c=>jL h.2 b (hO c)) aq aq aq;have:=aaf (n:=V (p.take i)) az;rw[Int.one_mul]at q2;exact⟨a,Int.lt_of_lt_of_le q2 this⟩
def BI{p:Bs}(h:i<V p):p.getD i 0∈p:=az
abbrev tb2:List (Nat×eP):=[(55,lW aI (λk=>dB (cN k)) λ_=>[]),(193,lW aS (λs=>dB (bH s)) λ_=>[])]
def s8:b5 X tb2:=.cons t55 (.cons acb .nil)
abbrev dNm(n:Int):D:=.gI [.bX (.c (.int .i64 n)),.bX (.c .kG)]
def Tv(k:Int)(p:Bs)(hk:cN k=W)(b:bH p=W):Ev X 188 [dI k,dS p] [] (dNm (fb k p)) []:=by
 refine Ev.bQ Tryz.func188 rfl λq=>?_;have a:=b;simp only[bH,cu,bu]at a;have d:=hk;simp only[cN,cu,bu]at d;refine aY s8 [(8,ae),(13,ae)] Z fC (I.Bp (λi=>i<=V p) (λi:Nat=>[(0,dI k),(1,dS p),(6,dI (gq (p.take i))),(19,dI (V p)),(20,dI i)]) (λ_=>[]) (λi=>V p-i) 0 Z (by simp[gq]) aq Z ?_);intro i hi;by_cases h:i<V p
 .have f:=mg b hi;have n:=mg b (i:=i+1) aq;have e:=zc h;refine ba [(21,W)] Z ?_ (I.again (i+1) Z ?_ ?_ ?_ Z)
  .simp only[aA,fK,cd];simp[-aj,h,fK];have j:=jL a.2 (p.getD i 0) (BI h);have c:97<=dM p i/\dM p i<=122:=Q7;omega
  .have j:=jL a.2 (p.getD i 0) (BI h);have c:97<=dM p i/\dM p i<=122:=Q7;have o:(dM p i-97) % 256=dM p i-97:=Int.emod_eq_of_lt aq aq;exact ek
  .grind
  grind
 have e:i=V p:=aq;subst e;have f:=uF b;refine ba [(21,ae)] Z ay (I.gE Z Z ?_);refine bt Z ?_ (I.bE Z ?_)
 .rw[de];have g:0<=gq p*(2*k+1):=Int.mul_nonneg f.1 aq;have l:gq p*(2*k+1)<=282429536481*199:=Int.mul_le_mul aq aq aq aq;generalize gq p*(2*k+1)=m at g l;simp only[aA,cd];omega
 rw[de];refine aA.eu.2 ⟨?_,aA.eu.2 ⟨Z,an⟩⟩;show(_:Int)=_;rw[Int.mul_comm 7919 k];rfl
def acf:fp X 188 (qb aI aS (λk p=>dNm (fb k p)) λk p=>[cN k=W,bH p=W]):=.s9 λk p h=>Tv k p h.1 h.2
def Lk(h:o.op=.binOp op t x (.const .nilIface) ty){c:Bool}{ms:Array (String×av)}(k:P.underlying t=O (.interface ms))(p:η x=b7 .kG)(n:η (.const .nilIface)=b7 .kG)(j:lx op W=O c):bU P o η U (b7 (.bool c)) U:=by
 refine .dw λs l q m=>?_;have g:=m x;have d:=m (.const .nilIface);rw[p]at g;rw[n]at d;replace g:=gG g;replace d:=gG d;generalize a:l x=vx at g;generalize b:l (.const .nilIface)=vy at d;cases g;cases d;have i:(Op.equal t .nilIface .nilIface).run P s.w=.ok W s.w:=by show(bx (9999+1) t _ _).run P s.w=_;unfold bx;simp[underlying,k]
 have f:∀es,(Op.equal t .nilIface .nilIface).events P s.w es=es:=λes=>by show(bx (9999+1) t _ _).events P s.w es=es;unfold bx;simp[underlying,k]
 cases op<;>simp only[lx,reduceCtorEq,eF]at j
 .subst j;exact⟨.bool W,by simp[ar,h,a,b,eqGuard,binOp,i],Rd.bool,by simp[ar,h,a,b,eqGuard,binOp,i,f]⟩
 subst j;exact⟨.bool ae,by simp[ar,h,a,b,eqGuard,binOp,i],Rd.bool,by simp[ar,h,a,b,eqGuard,binOp,i,f]⟩
def O2(k:Int)(p:Bs)(n:Int)(hk:cN k=W)(b:bH p=W):Ev X 227 [dI k,dS p,dI n] [] (dB (fb k p==n)) []:=by refine Ev.bQ Tryz.func227 rfl λa=>?_;refine aY (b5.cons acf .nil) [(17,W)] Z fC ?_;refine I.gH (Lk Z Tryz.underlying68 Z Z Z) Z Z ?_;refine aY (b5.cons acf .nil) [(17,W)] Z wK (I.bE Z ?_);simp
def t227:fp X 227 (Kc aI aS aI (λk p n=>dB (fb k p==n)) λk p _=>[cN k=W,bH p=W]):=.QD λk p n h=>O2 k p n h.1 h.2
abbrev dQ(n:Int):D:=b7 (.int .u64 n)
def _root_.Go.AM.AW.NB{X:Cx P}{Q:Post}{x y:Code}(h:AW X N y Q J U):AW X N (.cond (.const (.bool ae)) x y) Q J U:=by intro s a f hh b k cs S hb hQ;refine .ctl hh Z (λ_=>Ac (t:=ae) Z) λg h1=>?_;exact h g a (f.rely h1 hh) (hh.rely h1) b k cs S hb λe J' U' s' a' q d c st=>hQ e J' U' s' a' q d c (h1.db.trans st)
def _root_.Go.AM.I.NB{P:aR}{X:Cx P}{N:Nat}{Qf:Post}{K:List It}{J:Fr}{U:List bq}{x y:Code}(h:I X N Qf (.code y::K) .normal J U):I X N Qf (.code (.cond (.const (.bool ae)) x y)::K) .normal J U:=AW.NB h
def Lf{k l:IntKind}{a b:Int}(c:Int)(h:o.op=.binOp op t x y ty)(u:η x=b7 (.int k a))(r:η y=b7 (.int l b))(n:cd k c)(d:∀w,(binOp op t (.int k a) (.int l b)).run P w=.ok (.int k c) w)(m:∀w,(binOp op t (.int k a) (.int l b)).events P w #[]=#[]):
  bU P o η U (b7 (.int k c)) U:=by refine .dw λs p v q=>?_;have i:=q x;have f:=q y;rw[u]at i;rw[r]at f;replace i:=gG i;replace f:=gG f;generalize g:p x=vx at i;generalize j:p y=vy at f;cases i;cases f;exact⟨.int k c,by simp only[ar,h,cf,g,j,jJ,cA,d,dN],.int n,by simp[ar,h,g,j,jJ,l5,d,m]⟩
def Lp:Ev X 259 [dQ 1,dQ 2] [] (.gI [.bX (.c (.int .u64 0)),.bX (.c (.int .u64 2))]) []:=Zh
def Lq:Ev X 259 [dQ 1,dQ 3] [] (.gI [.bX (.c (.int .u64 0)),.bX (.c (.int .u64 3))]) []:=Zh
def afq:eP:=λargs U=>match args,U with
 |[.e (.bX (.c (.int .u64 1))),.e (.bX (.c (.int .u64 c)))],[]=>O (.gI [.bX (.c (.int .u64 0)),.bX (.c (.int .u64 c))],[],[c=2∨c=3])
 |_,_=>af
def afr:fp X 259 afq:=by
 intro args U res U' obs h ho;unfold afq at h;split at h
 .cases h;rcases ho with rfl|rfl
  .exact Lp
  exact Lq
 grind
def acm(c:Int)(b:c=2∨c=3):Ev X 236 [dQ 1,dQ c] [] (.gI [.bX (.c (.int .u64 0)),.bX (.c (.int .u64 c))]) []:=by refine Ev.bQ Tryz.func236 rfl λa=>?_;refine cp (b5.cons afr .nil) Z an ?_;refine I.NB ?_;refine cp (b5.cons afr .nil) Z ?_ (I.bE Z);exact c9
def ab9:eP:=λargs U=>match args,U with
 |[.e (.bX (.c (.int .u64 1))),.e (.bX (.c (.int .u64 c)))],[]=>O (.gI [.bX (.c (.int .u64 0)),.bX (.c (.int .u64 c))],[],[c=2∨c=3])
 |_,_=>af
def t236:fp X 236 ab9:=by
 intro args U res U' obs h ho;unfold ab9 at h;split at h
 .cases h;exact acm _ ho
 grind
abbrev rj:eP:=lW aS (λp=>dS (iv p)) λ_=>[]
abbrev Gf(r:Option Bs):D:=.gI [.bX (.c (.du (r.getD []))),.bX (.c (.bool r.isSome))]
def Ll(a:fp X 150 rj)(b:Bs):Ev X 226 [dS b] [] (Gf (gu b)) []:=by
 refine Ev.bQ Tryz.func226 rfl λf=>?_;have d:b5 X [(248,acd),(193,lW aS (λs=>dB (bH s)) λ_=>[]),(150,rj)]:=.cons ajf (.cons acb (.cons a .nil));by_cases c:bH (gQ b)=W
 .by_cases e:iv (gQ b)=b
  .refine aY d [(10,ae),(15,ae)] Z fC (I.bE Z ?_);simp[gu,c,e]
  refine aY d [(10,ae),(15,W)] Z fC (I.bE Z ?_);simp[gu,c,e]
 refine aY d [(10,W),(15,W)] Z ?_ (I.bE Z ?_)
 .simp[c]
 simp[gu,c]
def afp(a:fp X 150 rj):fp X 226 (lW aS (λb=>Gf (gu b)) λ_=>[]):=.rl λb _=>Ll a b
def BJ{b p:Bs}(h:gu b=O p):bH p=W:=by unfold gu at h;grind
abbrev dIt(x:bJ):D:=aIS.enc x
def Tw(c:fp X 150 rj)(x:bJ)(k:Int)(hk:cN k=W):Ev X 176 [dIt x,dI k] [] (Gf (mh k x)) []:=by
 refine Ev.bQ Tryz.func176 rfl λf=>?_;have d:b5 X [(226,lW aS (λb=>Gf (gu b)) λ_=>[]),(227,Kc aI aS aI (λk p n=>dB (fb k p==n)) λk p _=>[cN k=W,bH p=W])]:=.cons (afp c) (.cons t227 .nil);cases a:gu x.2 with
 |none =>
  refine aY d [(16,W),(23,W)] Z yX (I.bE Z ?_);simp[mh,a]
 |some p =>
  have g:=BJ a;by_cases e:fb k p=x.1
  .refine aY d [(16,ae),(23,ae)] Z fC (I.bE Z ?_);simp[mh,a,e,hk]
  refine aY d [(16,ae),(23,W)] Z fC (I.bE Z ?_);simp[mh,a,e,hk]
def Tx(a:fp X 150 rj):fp X 176 (qb aIS aI (λx k=>Gf (mh k x)) λ_ k=>[cN k=W]):=.s9 λx k h=>Tw a x k h
def acg(x:bJ)(n:Int):Ev X 244 [dIt x,b7 (.rp [.int .i64 n])] [] (dB (x.1==n)) []:=by refine Ev.bQ Tryz.func244 rfl λa=>?_;exact bt Z an (I.bE Z)
def ach:eP:=λargs U=>match args,U with
 |[.e (.agg [.c (.int .i64 a0),.c (.du a1)]),.e (.bX (.c (.rp [.int .i64 n])))],[]=>O (dB (a0==n),[],[a1=a1])
 |_,_=>af
def ajk:fp X 244 ach:=by
 intro args U res U' obs h ho;unfold ach at h;split at h
 .rename_i a b n;cases h;exact acg (a,b) n
 grind
abbrev Ty(n:Int):D:=b7 (.fn (.func 244) [] [.rp [.int .i64 n]])
def Gg(l:List bJ)(n:Int):Int:=match l.findIdx? (λx=>x.1==n)with|some i=>i|none=>-1
def XJ{t:List bJ}{n:Int}(hi:i<V t)(h:(t.getD i (0,[])).1=n)(a:∀j,j<i->(t.getD j (0,[])).1≠n):Gg t n=i:=by
 have:t.findIdx? (λf=>f.1==n)=O i:=by rw[AA];refine⟨hi,az,λj b=>?_⟩;grind
 rw[Gg,this]
def O3{t:List bJ}{n:Int}(a:∀j,j<V t->(t.getD j (0,[])).1≠n):Gg t n=-1:=by have:t.findIdx? (λf=>f.1==n)=af:=DF;rw[Gg,this]
def XK(t:List bJ)(n:Int):Ev X 243 [fO.sl t,Ty n] [] (dI (Gg t n)) []:=by
 refine Ev.bQ Tryz.func243 rfl λe=>?_;have c:=e.sl 0 Z;have b:b5 X [(244,ach)]:=.cons ajk .nil;refine cp b Z an (I.lQ (λi=>i<=V t/\∀j,j<i->(t.getD j (0,[])).1≠n) (λi:Nat=>[(0,fO.sl t),(1,Ty n),(7,dI (V t)),(8,dI i)]) (λ_=>[]) (λi=>V t-i) 0 Z ay Z an ⟨by omega,by omega⟩ ?_);rintro i ⟨hi,a⟩;by_cases h:i<V t
 .by_cases d:(t.getD i (0,[])).1=n
  .refine aY b [(9,W),(16,W)] Z ?_ (I.j5 (cM.zero Z ?_))
   .simp only[aA,bZ];grind
   simp[XJ h d a]
  refine aY b [(9,W),(16,ae)] Z ?_ (I.iD (i+1) Z ?_ Z an ?_ ?_)
  .simp only[aA,bZ];exact⟨by exact ek,an,eC.2 d,by omega,by omega,fQ aq⟩
  .simp
  .grind
  omega
 refine aY b [(9,ae)] Z c6 (I.gE Z Z ?_);refine cp b Z an (I.bE Z ?_);simp[O3 (λj f=>a j aq)]
def aci:eP:=λargs U=>match args,U with
 |[d,.e (.bX (.c (.fn (.func 244) [] [.rp [.int .i64 n]])))],[]=>match mf 2 d with
  |none=>af
  |some (m,es)=>O (dI (Gg (fO.cz m es) n),[],[fO.pd m es])
 |_,_=>af
def ajl:fp X 243 aci:=by
 intro args U res U' obs h ho;unfold aci at h;split at h
 .rename_i d n;split at h
  .cases h
  rename_i m es hd;cases h;exact(XK _ n).args (λ_ vs=>cU.imp (λ_=>fO.k8 hd ho) (cU.imp (λ_ r=>r) (λ_ r=>r)) vs)
 grind
def Lm(t:List bJ)(n:Int):(Gg t n=-1/\t.find? (λx=>x.1==n)=af)∨∃i:Nat,i<V t/\Gg t n=i/\t.find? (λx=>x.1==n)=O (t.getD i (0,[])):=by unfold Gg;grind[List.findIdx?_eq_some_iff_getElem,List.find?_eq_some_iff_getElem]
def Ln(a:fp X 150 rj)(k:Int)(p:bz)(n:Int)(hk:cN k=W):Ev X 217 [dI k,vN p,dI n] [] (Gf (eJ k p n)) []:=by
 refine Ev.bQ Tryz.func217 rfl λg=>?_;have c:b5 X [(243,aci),(176,qb aIS aI (λx k=>Gf (mh k x)) λ_ k=>[cN k=W])]:=.cons ajl (.cons (Tx a) .nil);have f:fO.cz (V p.2) (fO.fn p.2)=p.2:=fO.aw _;refine sY [] 7 Z an (I.freeze 5 1 Z Z Z ?_);rcases Lm p.2 n with⟨d,b⟩|⟨i,hi,d,b⟩
 .refine aY c [(14,W)] Z ek (I.bE Z ?_);simp[eJ,b]
 refine aY c [(14,ae)] Z ek (I.bE Z ?_);have e:eJ k p n=mh k (p.2.getD i (0,[])):=by simp only[eJ,b]
 simp_all
def acj(a:fp X 150 rj):fp X 217 (Kc aI (Iq fO) aI (λk p n=>Gf (eJ k p n)) λk _ _=>[cN k=W]):=.QD λk p n h=>Ln a k p n h
def oE:∀(l:List UInt8)(c:UInt8),Lib.indexByte l c<V l∨Lib.indexByte l c=-1
 |[],c=>.inr (by rw[Lib.indexByte.eq_def])
 |b::l,c=>by have a:=oE l c;grind[Lib.indexByte.eq_def]
set_option maxRecDepth 20000 in
theorem GP(s:Bs)(c:UInt8):Ev X 253 [dS s,dU c.toNat] [] (dI (Lib.indexByte s c)) []:=by
 refine Ev.bQ Tryz.func253 rfl λq=>?_;have u:=q.du 0 Z;refine bt Z an (I.bX (x:=dI (Lib.indexByte s c)) (U':=[]) ?_ Z ?_)
 .refine OA.nB (λ_ _ _ _=>eE wK) ?_;refine bU.qv λst ρ y l=>?_;have p:=gG (l (.tmp 5));have n:=gG (l (.tmp 6));generalize h:ρ (.tmp 5)=v1 at p;generalize i:ρ (.tmp 6)=v2 at n;cases p with
  |du e1 l1 =>
  cases n with
  |int l2 =>
  have j:ρ (.func 267)=.func (.func 267) #[] #[]:=by
   have:=gG (l (.func 267));generalize ρ (.func 267)=v at this;cases this with
   |fn fs cs a b z t c1 c2 d1 d2 =>
    grind
  have f:(callFunc 267 #[.string ‹ByteArray›,.int .u8 c.toNat]).run ag st.w=.ok (.value (.int .i64 (Lib.indexByte s c))) st.w:=by rw[run_callFunc_extern Tryz.func267 bw bw bw (e:=Extern.BytealgIndexByte.indexByte) bw,Lib.run_indexByteString];simp_all
  have k:er ag (Extern.BytealgIndexByte.indexByte #[.string ‹ByteArray›,.int .u8 c.toNat]):=by
   refine er.bind (m:=Extern.Bytes.bytesOf (.string ‹ByteArray›)) (λ_ _=>rfl) λb=>er.bind (m:=Extern.Bytes.asByte (.int .u8 c.toNat)) (λ_ _=>?_) λd=>?_
   .simp[Extern.Bytes.asByte]
   .skip
    split<;>exact .pure
  have g:=oX Tryz.func267 bw bw bw (e:=Extern.BytealgIndexByte.indexByte) bw _ k st.w #[];refine⟨.int .i64 (Lib.indexByte s c),?_,Rd.int ?_,?_⟩
  rotate_left 2
  .intro B o;simp[ar,resolve,Deferred.ofValue,invoke,h,i,j,g]at o;subst o;exact .inr ⟨_,Z⟩
  .simp[ar,resolve,Deferred.ofValue,invoke,h,i,j,f]
  have r:=Lib.indexByte_ge s c;have A:=oE s c;exact j3
 exact bt Z an (I.bE Z)
def XI(a:Int)(b:C)(n:Int):Ev X 52 [.e (.agg [.c (.int .i64 a),.c b]),b7 (.rp [.int .i64 n])] [] (dB (a==n)) []:=by refine Ev.bQ Tryz.func52 rfl λd=>?_;exact bt Z an (I.bE Z)
def c52:eP:=λargs U=>match args,U with
 |[.e (.agg [.c (.int .i64 a0),.c b]),.e (.bX (.c (.rp [.int .i64 n])))],[]=>O (dB (a0==n),[],[])
 |_,_=>af
def t52:fp X 52 c52:=by
 intro args U res U' obs h ho;unfold c52 at h;split at h
 .cases h;exact XI _ _ _
 cases h
abbrev aae(n:Int):D:=b7 (.fn (.func 52) [] [.rp [.int .i64 n]])
def vf(l:List dn)(n:Int):Int:=match l.findIdx? (λx=>x.1==n)with|some i=>i|none=>-1
def Tt{t:List dn}{n:Int}(hi:i<V t)(h:(t.getD i (0,[])).1=n)(a:∀j,j<i->(t.getD j (0,[])).1≠n):vf t n=i:=by
 have:t.findIdx? (λf=>f.1==n)=O i:=by rw[AA];refine⟨hi,fC,λj c=>?_⟩;have b:j<V t:=aq;simpa[aj,bD b]using a j c
 rw[vf,this]
def Lj{t:List dn}{n:Int}(a:∀j,j<V t->(t.getD j (0,[])).1≠n):vf t n=-1:=by
 have:t.findIdx? (λf=>f.1==n)=af:=by rw[EX];intro f b;obtain⟨j,c,rfl⟩:=gM b;simp_all
 rw[vf,this]
def Tu(t:List dn)(n:Int):Ev X 51 [dY.sl t,aae n] [] (dI (vf t n)) []:=by
 refine Ev.bQ Tryz.func51 rfl λf=>?_;have d:=f.sl 0 Z;have b:b5 X [(52,c52)]:=.cons t52 .nil;refine cp b Z an (I.lQ (λi=>i<=V t/\∀j,j<i->(t.getD j (0,[])).1≠n) (λi:Nat=>[(0,dY.sl t),(1,aae n),(7,dI (V t)),(8,dI i)]) (λ_=>[]) (λi=>V t-i) 0 Z ay Z an ⟨by omega,by omega⟩ ?_);rintro i ⟨hi,a⟩;by_cases h:i<V t
 .by_cases e:(t.getD i (0,[])).1=n
  .refine aY b [(9,W),(16,W)] Z ek (I.j5 (cM.zero Z ?_));simp[Tt h e a]
  refine aY b [(9,W),(16,ae)] Z ?_ (I.iD (i+1) Z ?_ Z an ?_ ?_)
  .simp only[aA,bZ];exact⟨by exact ek,eC.2 e,by omega,by omega,fQ aq⟩
  .simp
  .refine⟨by omega,λj c=>?_⟩;rcases zR.1 c with c|rfl
   .simp_all
   omega
  omega
 refine aY b [(9,ae)] Z c6 (I.gE Z Z ?_);refine cp b Z an (I.bE Z ?_);simp[Lj (λj c=>a j aq)]
def c51:eP:=λargs U=>match args,U with
 |[d,.e (.bX (.c (.fn (.func 52) [] [.rp [.int .i64 n]])))],[]=>match mf 2 d with
  |none=>af
  |some (m,es)=>O (dI (vf (dY.cz m es) n),[],[dY.pd m es])
 |_,_=>af
def t51:fp X 51 c51:=by
 intro args U res U' obs h ho;unfold c51 at h;split at h
 .rename_i d n;split at h
  .cases h
  rename_i m es hd;cases h;exact(Tu _ n).args (λ_ vs=>cU.imp (λ_=>dY.k8 hd ho) (cU.imp (λ_ r=>r) (λ_ r=>r)) vs)
 cases h
def Ip(t:List dn)(n:Int):(vf t n=-1/\t.find? (λx=>x.1==n)=af)∨∃i:Nat,i<V t/\vf t n=i/\t.find? (λx=>x.1==n)=O (t.getD i (0,[])):=by
 unfold vf;cases h:t.findIdx? (λx=>x.1==n)with
 |none =>
  refine .inl ⟨Z,?_⟩;rw[EX]at h;exact uc.2 λx b=>by exact ek
 |some i =>
  rw[AA]at h;obtain⟨hi,c,a⟩:=h;refine .inr ⟨i,hi,Z,?_⟩;rw[Wq];refine⟨fC,i,hi,fC,λj d=>?_⟩;simp_all
def xT(b:Nat->Int):Nat->List C:=λi=>[.int .u8 (b i)]
def Bytes(b:Nat->Int):Prop:=∀i,0<=b i/\b i<=255
abbrev pD(m:Nat)(b:Nat->Int)(k:Int):bq:=.cells 106 [.c (.sl ae 1 m (xT b)),.c (.int .i64 k)]
def e9.sH{f:aO}{fn:Func}{args:List D}{U':ι->List bq}(d:Tryz.prog.funcs[f]?=O fn)(b:(fn.name== "runtime.NumGoroutine")=ae)(hb:fn.body=O c)(a:bP args.length fn.ntmps=W)(h:vA args U->I X fn.ntmps (λe J σ1=>∃j,cM fn U.length (res j) (U' j) e J σ1) [.code c] .normal (lu 0 args) U):e9 X f args U res U' :=
 e9.KZ d b hb a λg=>AW.zC (I.dX (h g))
def I.pG{fn:Func}{a:Nat}{U':ι->List bq}(i:ι)(k:I X N (cM fn a (res i) (U' i)) K .normal J U):I X N (λe J σ1=>∃j,cM fn a (res j) (U' j) e J σ1) K .normal J U :=
 I.kV (λ_ _ _ q=>⟨i,q⟩) k
def oh(m:Nat)(b:Nat->Int)(k:Nat)(n:Int):Int :=
 if m=0 then 0 else if k<m then b k % n else
  ((b ((k:Int) % m).toNat*131+b (((k:Int)*7+3) % m).toNat*1117+k*29+(k:Int) / m*53).toNat ^^^ ((b ((k:Int) % m).toNat*131+b (((k:Int)*7+3) % m).toNat*1117+k*29+(k:Int) / m*53) / 64).toNat:Nat) % n
set_option maxRecDepth 20000 in
def Jp(m:Nat)(b:Nat->Int)(c:Bytes b)(k:Nat)(n:Int)(hk:k<=4000000)(x:m<=1048576)(s:1<=n/\n<=4000000):
  Ev X 24 [cE 0 0,dI n] [pD m b k] (dI (oh m b k n)) [pD m b (k+1)]:=by
 refine Ev.bQ Tryz.func24 rfl λh=>?_;have f:∀j,j<V ([pD m b k]:List bq)->([0]:List Nat)[j]?=O j:=λj o=>by grind
 by_cases d:m=0
 .subst d;refine ba [(17,ae),(24,W)] Z j3 (I.dt [0] Z ?_ Z Z Z f);exact j3
 have g:((k:Int)+1-1)=k:=aq;have i:((k:Int)+1-1).toNat=k:=aq;have l:=c k;by_cases q:(k:Int)<m
 .refine ba [(17,ae),(24,ae),(36,W)] Z ?_ (I.dt [0] Z ?_ Z Z Z f)
  .simp only[aA,g,bZ,bu,dm,eC,cd];omega
  have:k<m:=aq;simp[oh,d,this]
 refine bM [(17,ae),(24,ae),(36,ae)] Z ?_ (I.dt [0] Z ?_ Z Z Z f)
 .simp only[aA,g,dm,eC,cd];have a:(0:Int)<m:=aq;have y:=ui (k:Int) (by omega:(m:Int)≠0);have r:=ud (k:Int) a;have v1:=ui ((k:Int)*7+3) (by omega:(m:Int)≠0);have p:=ud ((k:Int)*7+3) a;have w1:0<=(k:Int) / m:=Int.ediv_nonneg aq aq;have w2:(k:Int) / m<=k:=Int.ediv_le_self _ aq;generalize(k:Int) % m=u at *;generalize((k:Int)*7+3) % m=v at *;generalize(k:Int) / m=w at *;have t:=c u.toNat;have z:=c v.toNat;grind
 have:¬k<m:=aq;simp[oh,d,this,g]
def tS(m:Nat)(b:Nat->Int)(k:Nat)(n:Int)(a:1<=n):0<=oh m b k n/\oh m b k n<n:=by
 unfold oh;split
 .omega
 split
 .exact⟨ui _ aq,ud _ aq⟩
 exact⟨ui _ aq,ud _ aq⟩
def iH(m:Nat)(b:Nat->Int)(d:Bytes b)(k:Nat)(n:Int)(hk:k<=4000000)(c:m<=1048576)(a:1<=n/\n<=4000000):
  e9 (ι:={v:Int // 0<=v/\v<n}) X 24 [cE 0 0,dI n] [pD m b k] (λv=>dI v.1) (λ_=>[pD m b (k+1)]):=by have h:=Jp (X:=X) m b d k n hk c a;exact⟨h.1,λs vs hr hh S cs hS=>h.2 s vs hr hh S cs (hS ⟨_,tS m b k n a.1⟩)⟩
def X6(es:Nat->List C):Nat->Int:=λi=>BL (es i) 0
def c24:eP:=λargs U=>match args,U with
 |[.e (.bX (.ptr 0 0)),.e (.bX (.c (.int .i64 n)))],[.cells 106 [.c (.sl ae 1 m es),.c (.int .i64 k)]] =>
  O (dI (oh m (X6 es) k.toNat n),[pD m (X6 es) (k+1)],[k=k.toNat,es=xT (X6 es),Bytes (X6 es),k<=4000000,m<=1048576,1<=n,n<=4000000])
 |_,_=>af
def t24:fp X 24 c24:=by
 intro args U res U' obs h ho;unfold c24 at h;split at h
 .rename_i n m es k;cases h;obtain⟨f,e,a,g,c,b,d⟩:=ho;have:=Jp (X:=X) m (X6 es) a k.toNat n aq c ⟨b,d⟩;grind
 grind
def Dr:∀j,j<1->([0]:List Nat)[j]?=O j:=λj a=>by grind
set_option maxRecDepth 20000 in
def UU(m:Nat)(b:Nat->Int)(c:Bytes b)(k:Nat)(hk:k<=4000000)(f:m<=1048576)(l:List Bs)(g:1<=V l/\V l<=1000):
  e9 (ι:={p:Bs // p∈l}) X 118 [cE 0 0,cS.sl l] [pD m b k] (λp=>dS p.1) (λ_=>[pD m b (k+1)]):=by refine e9.sH Tryz.func118 rfl rfl rfl λd=>?_;refine bt Z an (I.cP (iH m b c k (V l) hk f aq) [0] Z fe ?_);rintro⟨v,v0,v1⟩;refine bt Z c6 ?_;have a:l.getD v.toNat cS.cy∈l:=az;refine I.pG ⟨l.getD v.toNat cS.cy,a⟩ (I.dt [0] Z ?_ Z Z Z Dr);simp
def UW:List Bs:=[[],[102],[97,47],[97,98],[97,47,98,47,99],[47,97]]
def UX:List Bs:=[[97],[98],[99,47,97],[99,47,98],[100,47,97],[101],[97,47,98],[100]]
set_option maxRecDepth 20000 in
def Ar(m:Nat)(b:Nat->Int)(d:Bytes b)(k:Nat)(hk:k<=100000)(a:m<=1048576):
  e9 (ι:={p:Bs // V p<=8}) X 66 [cE 0 0] [pD m b k] (λp=>dS p.1) (λ_=>[pD m b (k+1+1)]):=by
 refine e9.sH Tryz.func66 rfl rfl rfl λf=>?_;refine bt Z an (I.cP (iH m b d k 40 aq a aq) [0] Z fe ?_);rintro⟨v,v0,v1⟩;by_cases h:v=0
 .refine ba [(5,W)] Z kT ?_;have:=UU (X:=X) m b d (k+1) aq a UW ee;refine I.l7 this [0] Z Z Z Z ?_ Z Z Z fe Z fe Z ?_
  .refine⟨Z,λi hi=>?_⟩;rcases i with _|_|_|_|_|_|i<;>first|rfl|omega
  rintro⟨p,c⟩;refine bt Z an (I.pG ⟨p,(by decide:∀p∈UW,V p<=8) p c⟩ (I.dt [0] Z ?_ Z Z Z Dr));simp
 refine ba [(5,ae)] Z kT ?_;have:=UU (X:=X) m b d (k+1) aq a UX ee;refine I.l7 this [0] Z Z Z Z ?_ Z Z Z fe Z fe Z ?_
 .refine⟨Z,λi hi=>?_⟩;rcases i with _|_|_|_|_|_|_|_|i<;>first|rfl|omega
 rintro⟨p,c⟩;refine bt Z an (I.pG ⟨p,(by decide:∀p∈UX,V p<=8) p c⟩ (I.dt [0] Z ?_ Z Z Z Dr));simp
def aaC:List Bs:=[[97,98,99],[104,101,108,108,111],[119,111,114,108,100],[97,97,97,97],[107,101,101,112],[122,122],[98,97,99,107,117,112],[113]]
abbrev agc(k:Nat):={q:Bs×Nat // V q.1<=100000/\k<=q.2/\q.2<=k+60}
def N2(s:Bs)(n:Int)(c:V s<=10)(j:0<=n/\n<=100):e9 (ι:={p:Bs // V p<=100000}) X 119 [dS s,dI n] [] (λp=>dS p.1) (λ_=>[]):=by
 refine e9.sH Tryz.func119 rfl rfl rfl λb=>?_;refine bt Z an (I.lQ (λx:Nat×Bs×Bs=>x.1<=100/\V x.2.2+V x.2.1*x.1<=1010) (λx=>[(0,dS x.2.1),(1,dI x.1),(5,dS x.2.2)]) (λ_=>[]) (λx=>x.1) (n.toNat,s,[]) Z c6 Z an ⟨by grind,?_⟩ ?_)
 .have:V s*n.toNat<=10*100:=Nat.mul_le_mul c aq;grind
 rintro⟨k,t,gf⟩ ⟨d,a⟩;simp only at d a;by_cases hk:0<k
 .have h:V t<=V t*k:=zT _ hk;have i:((k:Int) / 2)=((k / 2:Nat):Int):=aq;by_cases g:k % 2=1
  .have f:V (t++t)*(k / 2)+V t=V t*k:=by have e:k=2*(k / 2)+1:=aq;grind
   refine ba [(7,W),(10,W)] Z c9 (I.iD (k / 2,t++t,gf++t) Z ay Z an az ?_);grind
  have f:V (t++t)*(k / 2)=V t*k:=by have e:k=2*(k / 2):=aq;grind
  refine ba [(7,W),(10,ae)] Z c9 (I.iD (k / 2,t++t,gf) Z ay Z an az ?_);grind
 obtain rfl:k=0:=aq;refine ba [(7,ae)] Z ay (I.gE Z Z ?_);exact bt Z an (I.pG ⟨gf,by omega⟩ (I.bE Z))
set_option maxRecDepth 20000 in
def NO(m:Nat)(b:Nat->Int)(d:Bytes b)(k:Nat)(hk:k<=100000)(c:m<=1048576):
  e9 (ι:=agc k) X 67 [cE 0 0] [pD m b k] (λq=>dS q.1.1) (λq=>[pD m b q.1.2]):=by
 refine e9.sH Tryz.func67 rfl rfl rfl λC=>?_;refine bt Z an (I.cP (iH m b d k 5 aq c aq) [0] Z fe ?_);rintro⟨v,v0,v1⟩;refine bt Z an (I.cm 1 (λs:Nat×Bs×Nat=>s.1<=4/\V s.2.1+6*s.1<=24/\k<=s.2.2/\s.2.2+s.1<=k+5) (λs=>[(0,cE 0 0),(4,dI s.1),(3,dS s.2.1)]) (λs=>[pD m b s.2.2]) (λs=>s.1) (v.toNat,[],k+1) Z c6 Z ay Z ⟨by omega,by grind,by simp,by grind⟩ ?_);rintro⟨n,s,k1⟩ ⟨z,t,l,r⟩;simp only at z t l r;by_cases h:0<n
 .refine ba [(9,W)] Z kT ?_;have:=UU (X:=X) m b d k1 aq c aaC ee;refine I.l7 this [0] Z Z Z Z ?_ Z Z Z fe Z fe Z ?_
  .refine⟨Z,λi hi=>?_⟩;rcases i with _|_|_|_|_|_|_|_|i<;>first|rfl|omega
  rintro⟨p,g⟩;have A:V p<=6:=(by decide:∀p∈aaC,V p<=6) p g;refine bt Z ?_ (I.aQ (n-1,s++p,k1+1) Z ?_ ?_ ?_ ?_)
  .simp[cd];omega
  .simp;omega
  .simp
  .grind
  grind
 obtain rfl:n=0:=aq;refine ba [(9,ae)] Z ay (I.br Z Z ?_);refine bt Z an (I.cP (iH m b d k1 4 aq c aq) [0] Z fe ?_);rintro⟨u,J,K⟩;by_cases j:u=0
 .refine ba [(19,W)] Z (by simp[j]) (I.cP (iH m b d (k1+1) 12 aq c aq) [0] Z fe ?_);rintro⟨w,w0,w1⟩;refine bt Z an (I.cm 1 (λs:Nat×Bs×Nat=>s.1<=11/\V s.2.1+s.1<=36/\k<=s.2.2/\s.2.2+s.1<=k+20) (λs=>[(0,cE 0 0),(5,dI s.1),(3,dS s.2.1)]) (λs=>[pD m b s.2.2]) (λs=>s.1) (w.toNat,s,k1+2) Z c6 Z c6 Z ⟨by omega,by grind,by grind,by grind⟩ ?_);rintro⟨n,s2,f⟩ ⟨D,g2,F,o⟩;simp only at D g2 F o;by_cases h:0<n
  .refine ba [(23,W)] Z kT (I.cP (iH m b d f 26 aq c aq) [0] Z fe ?_);rintro⟨x,H,AK⟩;refine bt Z ?_ (I.aQ (n-1,s2++[UInt8.ofNat (97+x).toNat],f+1) Z ?_ ?_ ?_ ?_)
   .simp[cd];omega
   .simp;omega
   .simp
   .grind
   grind
  obtain rfl:n=0:=aq;refine ba [(23,ae)] Z ay (I.br Z Z ?_);refine ba [(36,ae)] Z c6 (I.cP (iH m b d f 60 aq c aq) [0] Z fe ?_);rintro⟨y,B,E⟩;by_cases G:y=0
  .refine ba [(41,W)] Z c9 (I.pG ⟨(s2++[65],f+1),by grind,by grind,by grind⟩ (I.dt [0] Z ?_ Z Z Z Dr));simp
  by_cases a:y=1
  .refine ba [(41,ae),(45,W)] Z yX (I.cP (N2 [97,98,99,100,101] 9 ee ee) [] Z fe ?_);rintro⟨p,g⟩;refine bt Z an (I.pG ⟨(p,f+1),g,by grind,by grind⟩ (I.dt [0] Z ?_ Z Z Z Dr));simp
  refine ba [(41,ae),(45,ae)] Z c9 (I.pG ⟨(s2,f+1),by grind,by grind,by grind⟩ (I.dt [0] Z ?_ Z Z Z Dr));simp
 refine sY [(19,ae)] 2 Z (by simp[j]) (ba [(36,ae)] Z c6 (I.cP (iH m b d (k1+1) 60 aq c aq) [0] Z fe ?_));rintro⟨y,B,E⟩;by_cases G:y=0
 .refine ba [(41,W)] Z c9 (I.pG ⟨(s++[65],(k1+1)+1),by grind,by grind,by grind⟩ (I.dt [0] Z ?_ Z Z Z Dr));simp
 by_cases a:y=1
 .refine ba [(41,ae),(45,W)] Z yX (I.cP (N2 [97,98,99,100,101] 9 ee ee) [] Z fe ?_);rintro⟨p,g⟩;refine bt Z an (I.pG ⟨(p,(k1+1)+1),g,by grind,by grind⟩ (I.dt [0] Z ?_ Z Z Z Dr));simp
 refine ba [(41,ae),(45,ae)] Z c9 (I.pG ⟨(s,(k1+1)+1),by grind,by grind,by grind⟩ (I.dt [0] Z ?_ Z Z Z Dr));simp
def Yt(m:Nat)(b:Nat->Int)(d:m<=1048576):e9 (ι:={n:Nat // n<=1048576}) X 22 [b7 (.sl ae 1 m (xT b))] [] (λ_=>cE 0 0) (λn=>[pD n.1 b 0]):=by
 refine e9.sH Tryz.func22 rfl rfl rfl λa=>?_;by_cases h:2000<m
 .refine ba [(5,W)] Z c6 (I.kR [pD 2000 b 0] Z ?_ (I.pG ⟨2000,by decide⟩ (I.dt [0] Z ?_ Z Z Z (λj f=>by grind))))
  .simp[eW,nY,dD]
  simp
 exact ba [(5,ae)] Z c6 (I.pG ⟨m,d⟩ (I.dt [0] Z ay Z Z Z (λj f=>by grind)))
def adp:∀j,j<1->([0]:List Nat)[j]?=O j:=ee
def zp:∀j,j<2->([0,1]:List Nat)[j]?=O j:=ee
def xR:List bJ->List ah
 |[]=>[]
 |x::r=>.int .i64 x.1::Hk x.2::xR r
def mq(l:List bJ):Prop:=∀x∈l,cd .i64 x.1/\V x.2<=9223372036854775807
theorem Av:∀l:List bJ,V (xR l)=V l*2
 |[]=>rfl
 |x::r=>by simp only[xR,eU,Av r];omega
def Vs:∀{l:List bJ}{i:Nat},i<V l->(xR l)[i*2]?=O (.int .i64 (l.getD i (0,[])).1)/\(xR l)[i*2+1]?=O (Hk (l.getD i (0,[])).2)
 |[],i,h=>absurd h (jO _)
 |x::r,0,_=>⟨rfl,rfl⟩
 |x::r,i+1,h=>by rw[show(i+1)*2=i*2+1+1 by omega];exact Vs (l:=r) (i:=i) az
def G0:∀l r:List bJ,xR (l++r)=xR l++xR r
 |[],r=>rfl
 |x::l,r=>by simp only[wG,xR,G0 l r]
theorem N7:∀(l:List bJ)(i:Nat)(y:bJ),i<V l->xR (l.set i y)=(xR l).take (i*2)++[.int .i64 y.1,Hk y.2]++(xR l).drop (i*2+2)
 |[],i,y,h=>absurd h (jO _)
 |x::l,0,y,_=>by simp[xR]
 |x::l,i+1,y,h=>by rw[List.set_cons_succ,xR,N7 l i y az,xR,show(i+1)*2=i*2+1+1 by omega,show i*2+1+1+2=(i*2+2)+1+1 by omega];simp
theorem CK{l:List bJ}(h:mq l):kU 2 (V l) (fO.fn l) (xR l):=by
 refine⟨Av l,λi _=>rfl,λi hi j c a=>?_⟩;obtain⟨d,b⟩:=Vs hi;obtain⟨f,q2⟩:=h (l.getD i (0,[])) az;have e:fO.fn l i=[.int .i64 (l.getD i (0,[])).1,.du (l.getD i (0,[])).2]:=rfl;rw[e]at a
 match j,a with
 |0,a=>cases a;exact⟨_,d,λM=>Rd.int f⟩
 |1,a=>cases a;exact⟨_,b,λM=>Rd.du az q2⟩
abbrev zN(v:ah):D:=b7 (.val v)
abbrev hB(bf:tn)(n:Nat)(l:List bJ):bq:=.cJ (jS 161 2 bf n (xR l))
abbrev cB(g:Nat)(bf:tn)(n:Nat):bq:=.cJ (fy g 199 (qw bf n))
abbrev dI3(x:bJ):D:=b7 (.M0 161 [.int .i64 x.1,.du x.2])
abbrev dI2(x:bJ):D:=.e (.agg [.c (.int .i64 x.1),.c (.du x.2)])
theorem adq{x:bJ}(h:qx vs [.c (.int .i64 x.1),.c (.du x.2)]):vs=[.int .i64 x.1,Hk x.2]:=by
 obtain⟨f,a⟩:=h
 match vs,f with
 |[u,v],_ =>
  obtain⟨i,d,q2⟩:=a 0 _ rfl;obtain⟨v',e,q4⟩:=a 1 _ rfl;cases d;cases e;have g:=q2 λ_ _=>af;have b:=(GO (q4 λ_ _=>af)).1;cases g;rw[b]
def adr(h:o.op=.call {callee:=.builtin .append,args:=#[x,y],argTypes:=#[199,199]}):oc ag o x y 161 yx :=
 ⟨⟨199,199,ac2,ac2,h,(bO _ _ Z),rfl,(bO _ _ Z),rfl⟩,(bO _ _ Z),by decide,by decide⟩
def G1(bf:tn)(n:Nat)(l:List bJ):Ev X 151 [zN (qw bf n)] [hB bf n l] (dI n) [hB bf n l]:=by refine Ev.bQ Tryz.func151 rfl λa=>?_;refine sY [] 7 Z an ?_;refine I.WH bO 0 Z Z Z Z Z Z Z Z ?_;exact bt Z an (I.dt [0] Z Z Z Z Z adp)
def CL(b cap:Nat){l:List bJ}(c:mq l)(m:Nat)(hi:i<V l)(d:j<V l):Ev X 301 [zN (qw (.row b cap) (V l)),dI i,dI j] [hB (.row b cap) (V l) l] (dB (decide ((l.getD i (0,[])).1<(l.getD j (0,[])).1))) [hB (.row b cap) (V l) l]:=by
 refine Ev.bQ Tryz.func301 rfl λe=>?_
 have a:=CK c;refine ba [(1000001,W)] Z an ?_;refine I.aa9 gB [zN (qw (.row b cap) (V l)),dI i,zN (.pointer (O ⟨b,0+(i:Int).toNat*2,af⟩)),zN (.pointer (O ⟨b,0+(i:Int).toNat*2+0,af⟩)),dI (l.getD i (0,[])).1,zN (qw (.row b cap) (V l)),dI j,zN (.pointer (O ⟨b,0+(j:Int).toNat*2,af⟩)),zN (.pointer (O ⟨b,0+(j:Int).toNat*2+0,af⟩)),dI (l.getD j (0,[])).1,dB (decide ((l.getD i (0,[])).1<(l.getD j (0,[])).1))] 10 Z Z Z Z Z ⟨
  OA.fU bO b5.nil Z,OA.fU bO b5.nil Z,OA.eval (ds:=[]) bO b5.nil Z c9,OA.fU bO b5.nil Z,
  OA.nB (iC Z) (bU.Ia (l:=0) (i:=i) (f:=0) bO Z Z ay Z a Z Z hi),
  OA.fU bO b5.nil Z,OA.fU bO b5.nil Z,OA.eval (ds:=[]) bO b5.nil Z c9,OA.fU bO b5.nil Z,
  OA.nB (iC Z) (bU.Ia (l:=0) (i:=j) (f:=0) bO Z Z ay Z a Z Z d),
  OA.fU bO b5.nil Z,an⟩ ?_
 exact bt Z an (I.dt [0] Z Z Z Z Z adp)
def N8{cap:Nat}{l:List bJ}{v:bJ}(h:o.op=.store t x y)(d:bY tt t=O yx)(ho:off=i*2)(f:ck J x=jA (.pointer (O ⟨b,off,af⟩)))(a:nU (ck J y)=O [.c (.int .i64 v.1),.c (.du v.2)])(m:V l=n)(hi:i<V l)(g:o.guard=af):
  OA X N all o J [hB (.row b cap) n l] .any [hB (.row b cap) n (l.set i v)]:=by subst ho;have j:=gO.Fj (N:=N) (U:=[hB (.row b cap) n l]) bO 0 (E:=161) (k:=2) (n:=n) (b:=b) (cap:=cap) (off:=i*2) (xs:=xR l) h d f a Z Z Z (by grind[Av]);grind[adq,N7,OA.FN]
abbrev swS(b cap:Nat)(l:List bJ)(i j:Nat)(x y:Bool):List bq:=match x with
 |false=>[hB (.row b cap) (V l) l]
 |true=>match y with
  |false=>[hB (.row b cap) (V l) (l.set i (l.getD j (0,[])))]
  |true=>[hB (.row b cap) (V l) (sK l i j)]
def CM(b cap:Nat){l:List bJ}(d:mq l)(hi:i<V l)(e:j<V l):Ev X 304 [zN (qw (.row b cap) (V l)),dI i,dI j] [hB (.row b cap) (V l) l] (.gI []) [hB (.row b cap) (V l) (sK l i j)]:=by
 refine Ev.bQ Tryz.func304 rfl λg=>?_;have a:=CK d;refine ba [(1000000,W)] Z an ?_;let xs:Nat->D:=λk=>([zN (qw (.row b cap) (V l)),dI i,zN (qw (.row b cap) (V l)),dI j,zN (qw (.row b cap) (V l)),dI j,zN (.pointer (O ⟨b,0+(j:Int).toNat*2,af⟩)),dI2 (l.getD j (0,[])),zN (qw (.row b cap) (V l)),dI i,zN (.pointer (O ⟨b,0+(i:Int).toNat*2,af⟩)),dI2 (l.getD i (0,[])),zN (.pointer (O ⟨b,0+(i:Int).toNat*2,af⟩)),.any,zN (.pointer (O ⟨b,0+(j:Int).toNat*2,af⟩))]:List D).getD k .any
 refine I.w8 gB xs (ve (swS b cap l i j) 13 15) Z Z Z Z ⟨
  .tK bO b5.nil,.tK bO b5.nil,.tK bO b5.nil,.tK bO b5.nil,.tK bO b5.nil,.tK bO b5.nil,
  .OY bO b5.nil,
  fE.fw Z Z Z Z (OA.nB (iC Z) (bU.Ia (l:=0) (i:=j) (f:=0) bO Z Z ay Z a Z Z e)),
  .tK bO b5.nil,.tK bO b5.nil,
  .OY bO b5.nil,
  fE.fw Z Z Z Z (OA.nB (iC Z) (bU.Ia (l:=0) (i:=i) (f:=0) bO Z Z ay Z a Z Z hi)),
  .OY bO b5.nil,
  fE.sA Z Z ?_,
  .OY bO b5.nil,
  fE.sB Z Z ?_,an⟩ ?_
 .exact N8 Z Z ay Z Z Z hi Z
 .exact N8 Z Z ay Z Z ay az Z
 intro D c;show I X _ _ _ _ _ (swS b cap l i j (D 13) (D 15));rw[c 13 ee,c 15 ee];exact cM.sX [0] Z an Z Z Z adp
def Vt(g:Nat)(bf:tn){l:List bJ}(o:mq l)(r:V l<=1000){x:bJ}(q:V x.2<=9223372036854775807):
  e9 (ι:=tn) X 303 [zN (.pointer (O ⟨g,0,af⟩)),dI3 x] [cB g bf (V l),hB bf (V l) l] (λ_=>.gI []) (λa=>[cB g a (V l+1),hB a (V l+1) (l++[x])]):=by
 refine e9.sH Tryz.func303 rfl rfl rfl λp=>?_;refine ba [(1000000,W)] Z an ?_;have f:=qO bf (V l);refine I.ae5 (ι:=tn) gB 7 8 10 (λk=>bP k 6) (λk=>([zN (.pointer (O ⟨g,0,af⟩)),zN (.pointer (O ⟨g,0,af⟩)),zN (.pointer (O ⟨g,0,af⟩)),zN (qw bf (V l)),dI3 x,dI2 x,b7 (.sl W 2 1 λi=>([[.int .i64 x.1,.du x.2]]:List (List C)).getD i [])]:List D).getD k .any) (λa _=>zN (qw a (V l+1))) (λa=>[cB g bf (V l),.cJ (jS 161 2 a (V l+1) (xR l++[.int .i64 x.1,Hk x.2]))])
  rfl rfl rfl rfl rfl rfl rfl (λk h=>by exact KE) rfl
  ⟨OA.fU bO b5.nil Z,OA.fU bO b5.nil Z,OA.nB (iC Z) (bU.H9 Z Z),OA.D6 bO 0 Z Z Z Z Z f Z,OA.fU bO b5.nil Z,OA.nB (iC Z) (bU.F7 (cs:=[.int .i64 x.1,.du x.2]) bO Z Z Z Z),OA.fU bO b5.nil Z,an,an,an,an⟩
  (λa=>⟨OA.fU bO b5.nil Z,OA.fU bO b5.nil Z,OA.nB (iC Z) (bU.H9 Z Z),OA.D6 bO 0 Z Z Z Z Z f Z,OA.fU bO b5.nil Z,OA.nB (iC Z) (bU.F7 (cs:=[.int .i64 x.1,.du x.2]) bO Z Z Z Z),OA.fU bO b5.nil Z,an,an⟩)
  (oz.FN Z (gO.rR (l:=1) (bf:=bf) (xs:=xR l) (n:=V l) (xv:=[.int .i64 x.1,Hk x.2]) (adr Z) Z Z Z Z Z (λM v j c b m=>?_) (by show _*24<=_;omega))) λa=>?_
 .match j,b with
  |0,b=>cases b;cases m;exact ek
  |1,b=>grind[GO]
 have d:=qO a (V l+1);refine I.gH (bU.H9 Z Z) Z Z ?_;refine I.S8 bO 0 Z Z Z Z Z (by cases a<;>rfl) d Z Z Z ?_;refine bt Z an ⟨a,cM.sX [0,1] Z an ?_ Z Z zp⟩;show O [_,bq.cJ (jS _ _ _ _ (xR l++_))]=O [_,bq.cJ (jS _ _ _ _ (xR (l++[x])))];rw[G0];rfl
def jS.cut{cap:Nat}{l:List bJ}{x:bJ}{ch:Nat->Option Obj}(h:jS E 2 (.row b cap) (V l+1) (xR (l++[x])) v ch):jS E 2 (.row b cap) (V l) (xR l) v ch:=by obtain⟨h1,h2,e,g,c,d,f,i⟩:=h;rw[G0]at *;refine⟨h1,λy a=>h2 y (zX _ a),Av l,by omega,c,xR [x]++d,az,?_⟩;grind
def YO(g b cap:Nat){l:List bJ}{x:bJ}(d:mq (l++[x]))(k:V l<=1000)(a:V l+1<=cap):
  Ev X 302 [zN (.pointer (O ⟨g,0,af⟩))] [cB g (.row b cap) (V l+1),hB (.row b cap) (V l+1) (l++[x])] (dI3 x) [cB g (.row b cap) (V l),hB (.row b cap) (V l) l]:=by
 refine Ev.bQ Tryz.func302 rfl λe=>?_;have c:kU 2 (V l+1) (fO.fn (l++[x])) (xR (l++[x])):=by grind[CK,List.length_append]
 refine bt Z an (I.gH (bU.H9 Z Z) Z Z ?_);refine I.bX (OA.D6 bO 0 Z Z Z Z Z Z Z) Z ?_;refine bt Z ek (I.gH (bU.H9 Z Z) Z Z ?_);refine I.bX (OA.D6 bO 0 Z Z Z Z Z Z Z) Z ?_;refine bt Z c9 (I.gH (bU.Ia (l:=1) (i:=V l) (f:=0) bO Z Z (by simp[show yx.size=2 from Z]) Z c Z Z ay) Z Z ?_);refine bt Z an (I.gH (bU.H9 Z Z) Z Z ?_);refine I.bX (OA.D6 bO 0 Z Z Z Z Z Z Z) Z ?_;refine bt Z an (I.gH (bU.abX bO Z Z Z Z Z Z a aq aq) Z Z ?_);rw[show(((V l+1:Nat):Int)-1).toNat=V l from by omega];refine I.gH (bU.H9 Z Z) Z Z ?_;refine I.S8 bO 0 Z Z Z Z Z Z Z Z Z Z ?_;refine sY [] 2 Z an (I.ahS (ι:=Unit) 1 (λ_=>jS 161 2 (.row b cap) (V l) (xR l)) Z (λv j h=>⟨(),jS.cut h⟩) λ_=>?_);refine bt Z an (I.dt [0,1] Z ?_ Z Z Z zp);simp
abbrev dIh(g:Nat):D:=b7 (.Fy 198 (.val (.pointer (O ⟨g,0,af⟩))))
section
variable {U:List bq}{l g n:Nat}{bf:tn}(a:eH l U=O (cB g bf n))
include a
def agt:vd ag U 198 (.pointer (O ⟨g,0,af⟩)) "Len" 151 (qw bf n):=.deref bO (gC Tryz.type198) rfl rfl rfl Tryz.underlying198 a rfl (qO bf n) rfl
def Vu:vd ag U 198 (.pointer (O ⟨g,0,af⟩)) "Less" 301 (qw bf n):=.deref bO (gC Tryz.type198) rfl rfl rfl Tryz.underlying198 a rfl (qO bf n) rfl
def Vv:vd ag U 198 (.pointer (O ⟨g,0,af⟩)) "Swap" 304 (qw bf n):=.deref bO (gC Tryz.type198) rfl rfl rfl Tryz.underlying198 a rfl (qO bf n) rfl
end
def agu{U:List bq}{v:ah}:vd ag U 198 v "Push" 303 v:=.ptr (gC Tryz.type198) rfl rfl rfl Tryz.underlying198
def ak3{U:List bq}{v:ah}:vd ag U 198 v "Pop" 302 v:=.ptr (gC Tryz.type198) rfl rfl rfl Tryz.underlying198
theorem yN{l:List bJ}(h:mq l){i j:Nat}(hi:i<V l)(c:j<V l):mq (sK l i j):=λx b=>h x (X1 hi c b)
theorem CN:∀(f:Nat)(l:List bJ)(j:Nat),j<f->E7 f l j=E7 (j+1) l j
 |0,_,_,h=>absurd h (jO _)
 |f+1,l,j,h=>by
  rw[E7,E7];by_cases b:(j-1) / 2=j
  .grind
  rw[bc b,bc b];split
  .have c:(j-1) / 2<j:=aq;rw[CN f _ _ aq,CN j _ _ c]
  simp
def ads(g b cap:Nat){l:List bJ}(a:mq l)(y:V l<=1000){j:Nat}(t:j<V l):
  Ev X 192 [dIh g,dI j] [cB g (.row b cap) (V l),hB (.row b cap) (V l) l] (.gI []) [cB g (.row b cap) (V l),hB (.row b cap) (V l) (E7 (j+1) l j)]:=by
 refine Ev.bQ Tryz.func192 rfl λx=>?_;refine sY [] 3 Z an (I.xd 2 [0] (λq:List bJ×Nat=>mq q.1/\V q.1=V l/\q.2<V l/\E7 (j+1) l j=E7 (q.2+1) q.1 q.2) (λq=>[(1,dI q.2)]) (λq=>[cB g (.row b cap) (V q.1),hB (.row b cap) (V q.1) q.1]) (λq=>q.2) (l,j) Z ay Z ay Z ⟨a,Z,t,Z⟩ ?_);rintro⟨q,i⟩ ⟨p,s,r,d⟩;simp only at p s r d;cases i with
 |zero =>
  have e:E7 (0+1) q 0=q:=by rw[E7,bh Z]
  rw[e]at d;rw[d];refine sY [] 5 Z qJ (I.gH (Lf (k:=.i64) 0 Z Z Z qJ (λw=>rfl) (λw=>rfl)) Z Z ?_);refine ba [(11,W),(17,W)] Z ay (I.br Z Z ?_);exact cM.sX [0,1] Z an ek Z Z zp
 |succ i =>
  refine ba [(11,ae),(1000001,W)] Z KE ?_;have u:(((i+1:Nat):Int)-1) / 2=((i / 2:Nat):Int):=aq;rw[u];have v:(i+1-1) / 2=i / 2:=az;have f:i / 2<V q:=aq;have c:i+1<V q:=aq;have e:E7 (i+1+1) q (i+1)=if th q (i+1) (i / 2)=W then E7 (i+1) (sK q (i / 2) (i+1)) (i / 2)else q:=by rw[E7,bc aq,v]
  rw[e]at d;refine I.region ?_;refine ba [(11,ae)] Z c9 (I.m0 (CL b cap p (V q) c f).uW [1] (Vu (l:=0) Z) Z Z Z Z Z Z Z Z fe Z fe Z λ_=>?_);by_cases m:th q (i+1) (i / 2)=W
  .rw[bh m]at d;have o:=jN m;refine ba [(17,ae)] Z fC (I.m0 (CM b cap p f c).uW [1] (Vv (l:=0) Z) Z Z Z Z Z Z Z Z fe Z fe Z λ_=>?_);refine bt Z an (I.aQ (sK q (i / 2) (i+1),i / 2) Z ay ?_ ?_ ?_)
   .simp[oy]
   .grind [yN,oy,CN]
   grind
  rw[bc m]at d;rw[d];have o:¬(q.getD (i+1) (0,[])).1<(q.getD (i / 2) (0,[])).1:=λh=>m (fQ h);refine ba [(17,W)] Z fC (I.br Z Z ?_);exact cM.sX [0,1] Z an ek Z Z zp
def Vw{U:List bq}{i n:Nat}{bf:tn}{l:List bJ}(h:eH i U=O (hB bf n l))(f:0<n)(s:St)(d:aH U s):∃b cap,bf=.row b cap/\n<=cap:=by
 have a:=cD h;obtain⟨b,cap,rfl⟩:=(jS.len a s d).2.2.1 f;have c:i<V s.β:=by rw[d.len];grind
 obtain⟨j,e,_⟩:=d.box i _ _ a (bD c);exact⟨b,cap,Z,e.2.2.2.1⟩
def JF(g:Nat)(bf:tn){l:List bJ}(a:mq l)(q:V l<=100){x:bJ}(m:cd .i64 x.1/\V x.2<=9223372036854775807):
  e9 (ι:=tn) X 149 [dIh g,dI3 x] [cB g bf (V l),hB bf (V l) l] (λ_=>.gI []) (λc=>[cB g c (V l+1),hB c (V l+1) (kD l x)]):=by
 refine e9.sH Tryz.func149 rfl rfl rfl λp=>?_;refine bt Z an (I.m0 (Vt g bf a aq m.2) [0,1] agu Z Z Z Z Z Z Z Z fe Z fe Z λc=>?_);have d:mq (l++[x]):=λy k=>by
  rcases eZ.1 k with h|h
  .exact a y h
  grind
 refine I.ZG (Vw (i:=1) (n:=V l+1) (bf:=c) (l:=l++[x]) Z aq) λo=>?_;obtain⟨b,cap,rfl,f⟩:=o;refine bt Z an (I.m0 (G1 (.row b cap) (V l+1) (l++[x])).uW [1] (agt (l:=0) Z) Z Z Z Z Z Z Z Z fe Z fe Z λ_=>?_);refine bt Z ek ?_;rw[show((V l+1:Nat):Int)-1=(V l:Nat) by omega];have e:=ads (X:=X) g b cap d az (j:=V l) ay;rw[cj,eY]at e;exact I.cQ e [0,1] Z (bt Z an ⟨.row b cap,cM.sX [0,1] Z an Z Z Z zp⟩)
theorem xM:∀(f g:Nat)(l:List bJ)(i n:Nat),n<=i+f->n<=i+g->j6 f l i n=j6 g l i n
 |0,0,_,_,_,_,_=>rfl
 |0,g+1,l,i,n,h,_=>by rw[j6,j6,bh aq]
 |f+1,0,l,i,n,_,h=>by rw[j6,j6,bh aq]
 |f+1,g+1,l,i,n,c,b=>by
  have hk:i<sL l i n:=Q0;rw[j6,j6];split
  .rfl
  split
  .exact xM f g _ _ _ aq aq
  simp
def Vx(g b cap n:Nat){l:List bJ}(a:mq l)(A:n<=V l)(B:V l<=1000):
  Ev X 196 [dIh g,dI 0,dI n] [cB g (.row b cap) (V l),hB (.row b cap) (V l) l] .any [cB g (.row b cap) (V l),hB (.row b cap) (V l) (j6 n l 0 n)]:=by
 refine Ev.bQ Tryz.func196 rfl λz=>?_;refine dj Z an (I.xd 2 [0,1,2] (λq:List bJ×Nat=>mq q.1/\V q.1=V l/\q.2<=n/\j6 n l 0 n=j6 n q.1 q.2 n) (λq=>[(7,dI q.2)]) (λq=>[cB g (.row b cap) (V q.1),hB (.row b cap) (V q.1) q.1]) (λq=>n-q.2) (l,0) Z ay Z ay Z ⟨a,Z,by omega,Z⟩ ?_);rintro⟨q,i⟩ ⟨p,v,u,f⟩;simp only at p v u f;by_cases t:n<=2*i+1
 .have e:j6 n q i n=q:=by rw[xM n (n+1) _ _ _ aq aq,j6,bh t]
  rw[e]at f;rw[f];refine ba [(17,W),(21,W)] Z Zt (I.br Z Z ?_);refine bt Z an (I.dt [0,1] Z an ek Z Z zp)
 have hk:i<sL q i n/\sL q i n<n:=Q0;have e:j6 n q i n=if th q (sL q i n) i=W then j6 n (sK q i (sL q i n)) (sL q i n) n else q:=by rw[xM n (n+1) _ _ _ aq aq,j6,bc t]
 rw[e]at f;have r:2*i+1<V q:=aq;have m:i<V q:=aq;have v1:2*(i:Int)+1=((2*i+1:Nat):Int):=aq;have y:((2*i+1:Nat):Int)+1=((2*i+2:Nat):Int):=aq;refine ba [(17,ae),(21,ae),(1000004,W)] Z Zs ?_;rw[v1];refine ba [(1000006,W)] Z Zs ?_;rw[y];apply I.tG [(0,dIh g),(1,dI 0),(2,dI n),(7,dI i),(9,dI (sL q i n))] [cB g (.row b cap) (V q),hB (.row b cap) (V q) q]
 .intro gf;by_cases s:2*i+2<n
  .refine I.region ?_;refine ba [(28,W)] Z c9 (I.m0 (CL b cap p (V q) (i:=2*i+2) (j:=2*i+1) aq r).uW [1] (Vu (l:=0) Z) Z Z Z Z Z Z Z Z fe Z fe Z λ_=>?_);by_cases c:th q (2*i+2) (2*i+1)=W
   .have o:sL q i n=2*i+2:=bh ⟨s,c⟩;refine ba [(33,W),(1000008,W)] Z (by simpa using jN c) (gf _ _ Z ?_);simp[o]
   have o:sL q i n=2*i+1:=bc λh=>c h.2;have d:¬(q.getD (2*i+2) (0,[])).1<(q.getD (2*i+1) (0,[])).1:=λh=>c (fQ h);refine ba [(33,ae),(1000008,W)] Z (by simpa using d) (gf _ _ Z ?_);simp[o]
  have o:sL q i n=2*i+1:=bc λh=>s h.1;refine ba [(28,ae),(33,ae),(1000008,W)] Z c9 (gf _ _ Z ?_);simp[o]
 generalize sL q i n=k at *;obtain⟨w,x⟩:=hk;refine I.region ?_;refine bt Z an (I.m0 (CL b cap p (V q) (i:=k) (j:=i) aq m).uW [1] (Vu (l:=0) Z) Z Z Z Z Z Z Z Z fe Z fe Z λ_=>?_);by_cases c:th q k i=W
 .rw[bh c]at f;refine ba [(39,ae)] Z (by simpa using jN c) (I.m0 (CM b cap p m (show k<V q by omega)).uW [1] (Vv (l:=0) Z) Z Z Z Z Z Z Z Z fe Z fe Z λ_=>?_);refine bt Z an (I.aQ (sK q i k,k) Z ay ?_ ?_ ?_)
  .simp[oy]
  .grind [yN,oy]
  grind
 rw[bc c]at f;rw[f];have d:¬(q.getD k (0,[])).1<(q.getD i (0,[])).1:=λh=>c (fQ h);refine ba [(39,W)] Z (by simpa using d) (I.br Z Z ?_);refine bt Z an (I.dt [0,1] Z an ek Z Z zp)
def CO{n:Nat}:∀(f:Nat){l:List bJ}(i:Nat),mq l->i<V l->n<=V l->mq (j6 f l i n)
 |0,_,_,h,_,_=>h
 |f+1,l,i,h,hi,b=>by
  rw[j6];split
  .exact h
  have hk:sL l i n<n:=Q0;split
  .exact CO f _ (yN h hi aq) wJ wJ
  grind
def LW(g b cap:Nat){l:List bJ}{n:Nat}(a:mq l)(o:V l=n+1)(t:n<=100)(d:n+1<=cap):
  Ev X 152 [dIh g] [cB g (.row b cap) (n+1),hB (.row b cap) (n+1) l] (dI3 ((n6 l).getD n (0,[]))) [cB g (.row b cap) n,hB (.row b cap) n ((n6 l).take n)]:=by
 refine Ev.bQ Tryz.func152 rfl λq=>?_;refine bt Z an (I.m0 (G1 (.row b cap) (n+1) l).uW [1] (agt (l:=0) Z) Z Z Z Z Z Z Z Z fe Z fe Z λ_=>?_);refine bt Z ek ?_;rw[show((n+1:Nat):Int)-1=((n:Nat):Int) by omega];have m:=CM (X:=X) b cap a (i:=0) (j:=n) aq aq;rw[o]at m;refine I.m0 m.uW [1] (Vv (l:=0) Z) Z Z Z Z Z Z Z Z fe Z fe Z λ_=>?_;have f:=yN a (i:=0) (j:=n) aq aq;have h:=Vx (X:=X) g b cap n f wJ wJ;have c:=CO (n:=n) n 0 f wJ wJ;have e:j6 n (sK l 0 n) 0 n=n6 l:=by unfold n6;grind[xM]
 rw[oy,o,e]at h;rw[e]at c;have p:n6 l=(n6 l).take n++[(n6 l).getD n (0,[])]:=by
  have s:V (n6 l)=n+1:=by grind[ID]
  apply uh
  .grind
  grind
 generalize(n6 l).getD n (0,[])=x at *;have k:V ((n6 l).take n)=n:=az;generalize(n6 l).take n=r at *;rw[p]at h c;subst k;refine bt Z an (I.cQ h [0,1] Z (bt Z an (I.m0 (YO g b cap c aq d).uW [0,1] ak3 Z Z Z Z Z Z Z Z fe Z fe Z λ_=>?_)));refine bt Z an (I.dt [0,1] Z ay Z Z Z zp)
def Y3{T:av}(h:o.op=.binOp op t x y ty){c:Bool}{ms:Array (String×av)}(m:P.underlying t=O (.interface ms))(r:η x=b7 .kG)(q:η y=b7 (.val (.iface T v)))(d:∀w,(eqGuard op t x y .nilIface (.iface T v)).run P w=.ok () w)(j:∀w es,(eqGuard op t x y .nilIface (.iface T v)).events P w es=es)(l:lx op ae=O c):bU P o η U (b7 (.bool c)) U:=by
 refine .dw λs n u p=>?_;have i:=p x;have f:=p y;rw[r]at i;rw[q]at f;replace i:=gG i;replace f:=gG f;generalize a:n x=vx at i;generalize b:n y=vy at f;cases i;cases f;have k:(Op.equal t .nilIface (.iface T v)).run P s.w=.ok ae s.w:=Zf;have g:∀es,(Op.equal t .nilIface (.iface T v)).events P s.w es=es:=λes=>by show(bx (9999+1) t _ _).events P s.w es=es;unfold bx;simp[underlying,m]
 cases op<;>simp only[lx,reduceCtorEq,eF]at l
 .subst l;exact⟨.bool ae,by simp[ar,h,a,b,d,binOp,k],Rd.bool,by simp[ar,h,a,b,d,j,binOp,k,g]⟩
 subst l;exact⟨.bool W,by simp[ar,h,a,b,d,binOp,k],Rd.bool,by simp[ar,h,a,b,d,j,binOp,k,g]⟩
abbrev dGv(v:ah):D:=b7 (.val v)
def JQ(T:av)(v:ah):Ev X 189 [b7 .kG,dGv (.iface T v)] [] (dB ae) []:=by refine Ev.bQ Tryz.func189 rfl λa=>?_;refine bt Z an ?_;refine I.gH (Lk Z Tryz.underlying68 Z Z Z) Z Z ?_;refine ba [(11,W)] Z ay ?_;refine I.gH (Y3 Z Tryz.underlying68 Z Z fe (λ_ _=>rfl) Z) Z Z ?_;exact bt Z an (I.bE Z Z)
abbrev GB(a b:av×ah):List bq:=[.cJ (fy 1 68 (.iface a.1 a.2)),.cJ (fy 2 68 (.iface b.1 b.2))]
def GZ:∀j,j<2->([0,1]:List Nat)[j]?=O j:=ee
def yM(a b:av×ah)(k:Int)(p:Bs)(hk:cN k=W)(d:bH p=W):Ev X 145 [dI k,dS p] (GB a b) (dI (fb k p)) (GB a b):=by refine Ev.bQ Tryz.func145 rfl λc=>?_;have c1:b5 X [(188,qb aI aS (λk p=>dNm (fb k p)) λk p=>[cN k=W,bH p=W])]:=.cons acf .nil;refine cp c1 Z fC ?_;refine I.bX (OA.SI bO 0 Z Z Z Z Z Z) Z ?_;refine I.cQ (JQ _ _) [] Z ?_;refine cp c1 Z an ?_;refine I.bX (OA.SI bO 1 Z Z Z Z Z Z) Z ?_;refine I.Xh (JQ _ _) [] Z Z Z Z Z Z Z Z Z Z Z ?_;exact aY c1 [(20,ae)] Z ay (I.dt [0,1] Z Z Z Z Z GZ)
end
section
open Go.Sort (swp insInner insOuter ltInt)
variable {X:Cx ag}
def Vb(n:Int):Ev X 202 [dI n] [] (dB ae) []:=by refine Ev.bQ Tryz.func202 rfl λa=>?_;exact ba [(5,ae)] Z ay (I.bE Z)
abbrev ago:eP:=lW aI (λ_=>dB ae) λ_=>[]
def ak0:fp X 202 ago:=.rl λn _=>Vb n
def YB(x y:Int):Ev X 163 [dI x,dI y] [] (dB (ltInt x y)) []:=by have a:b5 X [(202,ago)]:=.cons ak0 .nil;refine Ev.bQ Tryz.func163 rfl λb=>?_;refine cp a Z ay (I.bE Z ?_);simp[ltInt]
abbrev zm:eP:=qb aI aI (λx y=>dB (ltInt x y)) λ_ _=>[]
def CF:fp X 163 zm:=.s9 λx y _=>YB x y
def eI(d:Array Int)(j:Nat):List C:=[.int .i64 d[j]!]
abbrev m7(n:Nat):D:=mE 0 (.sl n 1 0 n)
abbrev bI(n:Nat)(d:Array Int):bq:=.eX 3 1 n (eI d)
def kK:∀j,j<1->([0]:List Nat)[j]?=O j:=λj a=>by grind
end
section
open Go.Sort (swp insInner insOuter insertionSort ltInt)
variable {X:Cx ag}
def km{d:Array Int}(e:d.size=n)(hi:i<n)(c:j<n){f:Nat->List C}(b:eW n f (eI d)):eW n (qZ j [.int .i64 d[i]!] (qZ i [.int .i64 d[j]!] f)) (eI (swp d i j)):=by
 intro k hk;have g:(swp d i j)[k]! = if k=j then d[i]! else if k=i then d[j]! else d[k]! := by unfold swp;grind
 have a:=b k hk;simp only[eI,qZ]at a⊢;grind
theorem iS(d:Array Int)(i j:Nat):(swp d i j).size=d.size:=by simp[swp]
theorem GR{a:Nat}{d:Array Int}(h:a<j)(b:ltInt d[j]! d[j-1]! = W):insInner ltInt a j d=insInner ltInt a (j-1) (swp d j (j-1)):=by
 cases j with
 |zero=>omega
 |succ j =>
  simp only[pH]at b⊢;rw[insInner,bh];grind
def xL{a:Nat}{d:Array Int}(h:a<j->ltInt d[j]! d[j-1]! = ae):insInner ltInt a j d=d:=by
 cases j with
 |zero=>rfl
 |succ j =>
  simp only[pH]at h;rw[insInner,bc];grind
theorem adk(n:Nat)(d:Array Int)(a b:Nat)(q:d.size=n)(t:b<=n)(v:a<=n)(w:n<=4000000):
  Ev X 157 [m7 n,dI a,dI b] [bI n d] (.gI []) [bI n (insertionSort ltInt d a b)]:=by
 have g:b5 X [(163,zm)]:=.cons CF .nil;refine Ev.bQ Tryz.func157 rfl λu=>?_;refine bt Z ek (I.cm 1 (λs:Nat×Array Int=>s.2.size=n/\a+1<=s.1/\s.1<=n+1/\insOuter ltInt a b s.1 s.2=insertionSort ltInt d a b) (λs=>[(0,m7 n),(1,dI a),(2,dI b),(6,dI s.1)]) (λs=>[bI n s.2]) (λs=>b-s.1) (a+1,d) Z ay Z ay Z ⟨q,by omega,by grind,Z⟩ ?_);rintro⟨i,d1⟩ ⟨o,hi,k,e⟩;simp only at o hi k e;by_cases h:i<b
 .refine ba [(12,W)] Z c6 (I.cm 1 (λs:Nat×Array Int=>s.2.size=n/\s.1<=i/\insInner ltInt a s.1 s.2=insInner ltInt a i d1) (λs=>[(0,m7 n),(1,dI a),(2,dI b),(6,dI i),(7,dI s.1)]) (λs=>[bI n s.2]) (λs=>s.1) (i,d1) Z ay Z ay Z ⟨o,by simp,Z⟩ ?_);rintro⟨j,d2⟩ ⟨f,p,c⟩;simp only at f p c;by_cases r:a<j
  .have l:((j:Int)-1).toNat=j-1:=aq;by_cases m:ltInt d2[j]! d2[j-1]! = W
   .refine aY g [(18,W),(29,W)] Z ?_ ?_
    .simp[cd,l,m];omega
    refine I.aQ (j-1,swp d2 j (j-1)) Z c6 ?_ ?_ ?_
    .simp only[aA.eu,aA,l,b8,bZ,aW,aX];exact km f aq aq (λ_ _=>rfl)
    .refine⟨by grind[iS],by omega,?_⟩;grind[GR]
    omega
   refine aY g [(18,W),(29,ae)] Z ?_ (I.br Z Z ?_)
   .simp[cd,l,m];omega
   refine bt Z ek (I.aQ (i+1,d2) Z ay ay ?_ ?_)
   .refine⟨f,by omega,by grind,?_⟩;simp only;rw[<-e,insOuter.eq_1 ltInt a b i,bh h,<-c,xL λ_=>by grind]
   omega
  refine aY g [(18,ae)] Z c9 (I.br Z Z ?_);refine bt Z ek (I.aQ (i+1,d2) Z ay ay ?_ ?_)
  .refine⟨f,by omega,by grind,?_⟩;simp only;rw[<-e,insOuter.eq_1 ltInt a b i,bh h,<-c,xL λx=>absurd x r]
  omega
 refine ba [(12,ae)] Z c6 (I.br Z Z ?_);have:insertionSort ltInt d a b=d1:=by rw[<-e,insOuter,bc h]
 rw[this];exact cM.sX [0] Z an Z Z Z kK
end
section
open Go.Sort (swp siftDown ltInt)
variable {X:Cx ag}
def Vl{hi first root:Nat}{d:Array Int}(h:¬2*root+1<hi):siftDown ltInt hi first root d=d:=by rw[siftDown,dif_pos aq]
theorem Vm{hi first root:Nat}{d:Array Int}(h:2*root+1<hi)(b:2*root+1+1<hi->ltInt d[first+(2*root+1)]! d[first+(2*root+1)+1]! = ae)(a:ltInt d[first+root]! d[first+(2*root+1)]! = W):
  siftDown ltInt hi first root d=siftDown ltInt hi first (2*root+1) (swp d (first+root) (first+(2*root+1))):=by rw[siftDown.eq_1 ltInt hi first root d,dif_neg aq,bc az,bc az]
theorem N4{hi first root:Nat}{d:Array Int}(h:2*root+1<hi)(b:2*root+1+1<hi->ltInt d[first+(2*root+1)]! d[first+(2*root+1)+1]! = ae)(a:ltInt d[first+root]! d[first+(2*root+1)]! = ae):
  siftDown ltInt hi first root d=d:=by rw[siftDown.eq_1 ltInt hi first root d,dif_neg aq,bc az,bh az]
theorem adn{hi first root:Nat}{d:Array Int}(h:2*root+1+1<hi)(b:ltInt d[first+(2*root+1)]! d[first+(2*root+1+1)]! = W)(a:ltInt d[first+root]! d[first+(2*root+1+1)]! = W):
  siftDown ltInt hi first root d=siftDown ltInt hi first (2*root+1+1) (swp d (first+root) (first+(2*root+1+1))):=by rw[siftDown.eq_1 ltInt hi first root d,dif_neg aq,bh az,bc az,dif_pos aq]
theorem YG{hi first root:Nat}{d:Array Int}(h:2*root+1+1<hi)(b:ltInt d[first+(2*root+1)]! d[first+(2*root+1+1)]! = W)(a:ltInt d[first+root]! d[first+(2*root+1+1)]! = ae):
  siftDown ltInt hi first root d=d:=by rw[siftDown.eq_1 ltInt hi first root d,dif_neg aq,bh az,bh az]
theorem YH(n:Nat)(d:Array Int)(lo hi first:Nat)(m:d.size=n)(p:first+hi<=n)(l:lo<=n)(t:n<=4000000):
  Ev X 197 [m7 n,dI lo,dI hi,dI first] [bI n d] (.gI []) [bI n (siftDown ltInt hi first lo d)]:=by
 have i:b5 X [(163,zm)]:=.cons CF .nil;refine Ev.bQ Tryz.func197 rfl λq=>?_;refine bt rfl an (I.cm 1 (λs:Nat×Array Int=>s.2.size=n/\s.1<=n/\siftDown ltInt hi first s.1 s.2=siftDown ltInt hi first lo d) (λs=>[(0,m7 n),(1,dI lo),(2,dI hi),(3,dI first),(8,dI s.1)]) (λs=>[bI n s.2]) (λs=>hi-s.1) (lo,d) rfl ?_ rfl ?_ rfl ⟨m,l,rfl⟩ ?_)
 .simp
 .simp
 rintro⟨root,d1⟩ ⟨j,o,f⟩;simp only at j o f;by_cases h:2*root+1<hi
 .have e:((first:Int)+(2*(root:Int)+1)).toNat=first+(2*root+1):=aq
  have c:((first:Int)+(2*(root:Int)+1)+1).toNat=first+(2*root+1+1):=aq
  by_cases r:2*root+1+1<hi
  .by_cases g:ltInt d1[first+(2*root+1)]! d1[first+(2*root+1+1)]! = W
   .have k:((first:Int)+(2*(root:Int)+1+1)).toNat=first+(2*root+1+1):=aq
    have b:((first:Int)+(root:Int)).toNat=first+root:=aq
    by_cases a:ltInt d1[first+root]! d1[first+(2*root+1+1)]! = W
    .refine bj i [(16,ae),(20,W),(35,W),(51,W)] rfl ?_ (I.aQ (2*root+1+1,swp d1 (first+root) (first+(2*root+1+1))) rfl ?_ ?_ ?_ ?_)
     .simp only[aA,b8,e,c,b,k,g,a,cd,bu,dm,aX,aW];and_intros<;>omega
     .simp
     .simp only[aA.eu,aA,b8,e,c,b,k,aW,aX];exact km j aq aq (λ_ _=>rfl)
     .grind [iS,adn]
     grind
    rw[pL]at a;rw[show siftDown ltInt hi first lo d=d1 by grind[YG]];refine bj i [(16,ae),(20,W),(35,W),(51,ae)] Z ?_ (I.gp (cM.mk [0] Z an Z Z Z kK));simp only[aA,b8,e,c,b,k,g,a,cd,bu,dm,aX,aW];and_intros<;>omega
   rw[pL]at g;have b:((first:Int)+(root:Int)).toNat=first+root:=aq
   by_cases a:ltInt d1[first+root]! d1[first+(2*root+1)]! = W
   .refine bj i [(16,ae),(20,W),(35,ae),(51,W)] rfl ?_ (I.aQ (2*root+1,swp d1 (first+root) (first+(2*root+1))) rfl ?_ ?_ ?_ ?_)
    .simp only[aA,b8,e,c,b,g,a,cd,bu,dm,aX,aW];and_intros<;>omega
    .simp
    .simp only[aA.eu,aA,b8,e,c,b,aW,aX];exact km j aq aq (λ_ _=>rfl)
    .grind [iS,Vm]
    grind
   rw[pL]at a;rw[show siftDown ltInt hi first lo d=d1 by grind[N4]];refine bj i [(16,ae),(20,W),(35,ae),(51,ae)] Z ?_ (I.gp (cM.mk [0] Z an Z Z Z kK));simp only[aA,b8,e,c,b,g,a,cd,bu,dm,aX,aW];and_intros<;>omega
  have g:True:=an;have b:((first:Int)+(root:Int)).toNat=first+root:=aq
  by_cases a:ltInt d1[first+root]! d1[first+(2*root+1)]! = W
  .refine bj i [(16,ae),(20,ae),(51,W)] rfl ?_ (I.aQ (2*root+1,swp d1 (first+root) (first+(2*root+1))) rfl ?_ ?_ ?_ ?_)
   .simp only[aA,b8,e,c,b,a,cd,bu,dm,aX,aW];and_intros<;>omega
   .simp
   .simp only[aA.eu,aA,b8,e,c,b,aW,aX];exact km j aq aq (λ_ _=>rfl)
   .grind [iS,Vm]
   grind
  rw[pL]at a;rw[show siftDown ltInt hi first lo d=d1 by grind[N4]];refine bj i [(16,ae),(20,ae),(51,ae)] Z ?_ (I.gp (cM.mk [0] Z an Z Z Z kK));simp only[aA,b8,e,c,b,a,cd,bu,dm,aX,aW];and_intros<;>omega
 refine ba [(16,W)] Z Kg (I.br Z Z ?_);rw[<-f,Vl h];exact cM.sX [0] Z an Z Z Z kK
end
section
open Go.Sort (swp order2 median medianAdjacent choosePivot Hint ltInt)
variable {X:Cx ag}
abbrev bN(k:Nat):bq:=.cells 3 [.c (.int .i64 k)]
abbrev dP1:D:=cE 1 0
abbrev tII(a b:Nat):D:=.gI [.bX (.c (.int .i64 a)),.bX (.c (.int .i64 b))]
def N5:∀j,j<2->([0,1]:List Nat)[j]?=O j:=λj a=>by grind
def yJ(n:Nat)(d:Array Int)(a b sw:Nat)(j:a<n)(g:b<n)(k:n<=4000000)(f:sw<=1000):
  Ev X 238 [m7 n,dI a,dI b,dP1] [bI n d,bN sw] (tII (order2 ltInt d a b sw).1 (order2 ltInt d a b sw).2.1) [bI n d,bN (order2 ltInt d a b sw).2.2]:=by
 have c:b5 X [(163,zm)]:=.cons CF .nil;refine Ev.bQ Tryz.func238 rfl λi=>?_;by_cases h:ltInt d[b]! d[a]! = W
 .have e:order2 ltInt d a b sw=(b,a,sw+1):=by simp[order2,h]
  rw[e];refine bj c [(18,W)] Z ?_ (I.dt [0,1] Z ?_ Z Z Z N5)
  .simp only[aA,b8,bZ,h,cd,aX,aW];and_intros<;>omega
  simp
 have e:order2 ltInt d a b sw=(a,b,sw):=by simp[order2,h]
 rw[e];rw[pL]at h;refine bj c [(18,ae)] Z fC (I.dt [0,1] Z ?_ Z Z Z N5);simp
def rG{d:Array Int}{a sw:Nat}(e:a<n)(c:b<n):(order2 ltInt d a b sw).1<n/\(order2 ltInt d a b sw).2.1<n/\(order2 ltInt d a b sw).2.2<=sw+1:=by unfold order2;split<;>simp only<;>omega
theorem EF(n:Nat)(d:Array Int)(a b c sw:Nat)(i:a<n)(g:b<n)(h:c<n)(f:n<=4000000)(k:sw<=900):
  Ev X 201 [m7 n,dI a,dI b,dI c,dP1] [bI n d,bN sw] (dI (median ltInt d a b c sw).1) [bI n d,bN (median ltInt d a b c sw).2]:=by refine Ev.bQ Tryz.func201 rfl λl=>?_;have e:=rG (d:=d) (sw:=sw) i g;have j:=rG (d:=d) (sw:=(order2 ltInt d a b sw).2.2) e.2.1 h;refine dj Z an (I.cQ (yJ n d a b sw i g f aq) [0,1] Z (dj Z an (I.cQ (yJ n d (order2 ltInt d a b sw).2.1 c (order2 ltInt d a b sw).2.2 e.2.1 h f aq) [0,1] Z (dj Z an (I.cQ (yJ n d (order2 ltInt d a b sw).1 (order2 ltInt d (order2 ltInt d a b sw).2.1 c (order2 ltInt d a b sw).2.2).1 (order2 ltInt d (order2 ltInt d a b sw).2.1 c (order2 ltInt d a b sw).2.2).2.2 e.1 j.1 f aq) [0,1] Z (dj Z an (I.dt [0,1] Z ?_ Z Z Z N5)))))));simp[median]
def P0{d:Array Int}{a c sw:Nat}(i:a<n)(g:b<n)(h:c<n):(median ltInt d a b c sw).1<n/\(median ltInt d a b c sw).2<=sw+3:=by have e:=rG (d:=d) (sw:=sw) i g;have f:=rG (d:=d) (sw:=(order2 ltInt d a b sw).2.2) e.2.1 h;have j:=rG (d:=d) (sw:=(order2 ltInt d (order2 ltInt d a b sw).2.1 c (order2 ltInt d a b sw).2.2).2.2) e.1 f.1;unfold median;grind
theorem GS(n:Nat)(d:Array Int)(a sw:Nat)(g:1<=a)(e:a+1<n)(c:n<=4000000)(b:sw<=900):
  Ev X 200 [m7 n,dI a,dP1] [bI n d,bN sw] (dI (medianAdjacent ltInt d a sw).1) [bI n d,bN (medianAdjacent ltInt d a sw).2]:=by
 refine Ev.bQ Tryz.func200 rfl λf=>?_;obtain⟨a,rfl⟩:∃a',a=a'+1:=⟨a-1,by omega⟩
 refine dj Z ek ?_;have key:∀x y z:Int,x=(a:Int)->y=((a+1:Nat):Int)->z=((a+1+1:Nat):Int)->Ev X 201 [m7 n,dI x,dI y,dI z,dP1] [bI n d,bN sw] (dI (median ltInt d a (a+1) (a+1+1) sw).1) [bI n d,bN (median ltInt d a (a+1) (a+1+1) sw).2]:=by rintro x y z rfl rfl rfl;exact EF n d a (a+1) (a+1+1) sw aq aq aq c b
 refine I.cQ (key (((a+1:Nat):Int)-1) _ (((a+1:Nat):Int)+1) aq Z aq) [0,1] Z (dj Z an (I.dt [0,1] Z ?_ Z Z Z N5));simp[medianAdjacent]
def xK:Hint->Int|.unknown=>0|.increasing=>1|.decreasing=>2
def CI(n:Nat)(d:Array Int){a c:Nat}(sw:Nat)(j:a<n)(f:b<n)(h:c<n)(l:n<=4000000)(e:sw<=900){x y z:Int}(i:x=a)(g:y=b)(k:z=c):
  Ev X 201 [m7 n,dI x,dI y,dI z,dP1] [bI n d,bN sw] (dI (median ltInt d a b c sw).1) [bI n d,bN (median ltInt d a b c sw).2]:=by grind[EF]
def qD(n:Nat)(d:Array Int){a:Nat}(sw:Nat)(f:1<=a)(c:a+1<n)(g:n<=4000000)(b:sw<=900){x:Int}(e:x=a):
  Ev X 200 [m7 n,dI x,dP1] [bI n d,bN sw] (dI (medianAdjacent ltInt d a sw).1) [bI n d,bN (medianAdjacent ltInt d a sw).2]:=by grind[GS]
def sq{d:Array Int}{a sw:Nat}(c:1<=a)(b:a+1<n):(medianAdjacent ltInt d a sw).1<n/\(medianAdjacent ltInt d a sw).2<=sw+3 :=
 P0 aq aq aq
abbrev GU(k:Nat):Hint:=if k=0 then .increasing else if k=12 then .decreasing else .unknown
def Vn{d:Array Int}{a:Nat}(c:8<=l)(b:l<50):choosePivot ltInt d a (a+l)=((median ltInt d (a+l / 4*1) (a+l / 4*2) (a+l / 4*3) 0).1,GU (median ltInt d (a+l / 4*1) (a+l / 4*2) (a+l / 4*3) 0).2):=by unfold choosePivot;grind
abbrev mA(d:Array Int)(a l:Nat):=medianAdjacent ltInt d (a+l / 4*1) 0
abbrev mB(d:Array Int)(a l:Nat):=medianAdjacent ltInt d (a+l / 4*2) (mA d a l).2
abbrev mC(d:Array Int)(a l:Nat):=medianAdjacent ltInt d (a+l / 4*3) (mB d a l).2
def Vo{d:Array Int}{a:Nat}(b:50<=l):choosePivot ltInt d a (a+l)=((median ltInt d (mA d a l).1 (mB d a l).1 (mC d a l).1 (mC d a l).2).1,GU (median ltInt d (mA d a l).1 (mB d a l).1 (mC d a l).1 (mC d a l).2).2):=by unfold choosePivot;grind
def PY(n:Nat)(d:Array Int)(a b:Nat)(j:a<=b)(m:b<=n)(i:8<=b-a)(g:n<=4000000):
  Ev X 160 [m7 n,dI a,dI b] [bI n d] (.gI [.bX (.c (.int .i64 (choosePivot ltInt d a b).1)),.bX (.c (.int .i64 (xK (choosePivot ltInt d a b).2)))]) [bI n d]:=by
 refine Ev.bQ Tryz.func160 rfl λp=>?_;obtain⟨l,rfl⟩:∃l,b=a+l:=⟨b-a,by omega⟩
 rw[EY]at i;by_cases h:l<50
 .refine bM [(32,W),(34,ae)] Z ?_ ?_
  .simp only[aA,cd,bu,dm,aX,aW];and_intros<;>omega
  refine I.cQ (CI n d (a:=a+l / 4*1) (b:=a+l / 4*2) (c:=a+l / 4*3) 0 aq aq aq g aq aq aq aq) [0,1] Z ?_;rw[Vn i h];generalize median ltInt d (a+l / 4*1) (a+l / 4*2) (a+l / 4*3) 0=r;by_cases e:r.2=0
  .refine bM [(52,W)] Z Hp (I.dt [0] Z ?_ Z Z Z kK);exact ek
  by_cases f:r.2=12
  .refine bM [(52,ae),(55,W)] Z (by simp[f]) (I.dt [0] Z ?_ Z Z Z kK);exact ek
  refine bM [(52,ae),(55,ae)] Z c9 (I.dt [0] Z ?_ Z Z Z kK);simp[e,f,xK,GU]
 refine bM [(32,W),(34,W)] Z ?_ ?_
 .simp only[aA,cd,bu,dm,aX,aW];and_intros<;>omega
 have k:(mA d a l).1<n/\(mA d a l).2<=0+3:=sq (d:=d) (a:=a+l / 4*1) (sw:=0) (n:=n) aq aq;have o:(mB d a l).1<n/\(mB d a l).2<=(mA d a l).2+3:=sq (d:=d) (a:=a+l / 4*2) (sw:=(mA d a l).2) (n:=n) aq aq;have q:(mC d a l).1<n/\(mC d a l).2<=(mB d a l).2+3:=sq (d:=d) (a:=a+l / 4*3) (sw:=(mB d a l).2) (n:=n) aq aq;refine I.cQ (qD n d (a:=a+l / 4*1) 0 aq aq g aq aq) [0,1] Z (dj Z an (I.cQ (qD n d (a:=a+l / 4*2) (mA d a l).2 aq aq g aq aq) [0,1] Z (dj Z an (I.cQ (qD n d (a:=a+l / 4*3) (mB d a l).2 aq aq g aq aq) [0,1] Z (dj Z an (I.cQ (CI n d (a:=(mA d a l).1) (b:=(mB d a l).1) (c:=(mC d a l).1) (mC d a l).2 aq aq aq g aq Z Z Z) [0,1] Z ?_))))));rw[Vo aq];generalize median ltInt d (mA d a l).1 (mB d a l).1 (mC d a l).1 (mC d a l).2=r;by_cases e:r.2=0
 .refine bM [(52,W)] Z Hp (I.dt [0] Z ?_ Z Z Z kK);exact ek
 by_cases f:r.2=12
 .refine bM [(52,ae),(55,W)] Z (by simp[f]) (I.dt [0] Z ?_ Z Z Z kK);exact ek
 refine bM [(52,ae),(55,ae)] Z c9 (I.dt [0] Z ?_ Z Z Z kK);simp[e,f,xK,GU]
end
section
open Go.Sort (swp reverseLoop reverseRange siftDown heapBuild heapPop heapSort ltInt)
variable {X:Cx ag}
def adm(n:Nat)(d:Array Int)(a b:Nat)(k:d.size=n)(p:1<=b)(o:a<=n)(l:b<=n)(q:n<=4000000):Ev X 161 [m7 n,dI a,dI b] [bI n d] (.gI []) [bI n (reverseRange d a b)]:=by
 refine Ev.bQ Tryz.func161 rfl λm=>?_;refine bt Z ek (I.cm 1 (λs:Nat×Nat×Array Int=>s.2.2.size=n/\s.1<=n/\s.2.1<n+1/\s.2.1<n/\reverseLoop s.1 s.2.1 s.2.2=reverseRange d a b) (λs=>[(0,m7 n),(6,dI s.1),(7,dI s.2.1)]) (λs=>[bI n s.2.2]) (λs=>s.2.1-s.1) (a,b-1,d) Z c6 Z ay Z ⟨k,by grind,by grind,by grind,Z⟩ ?_);rintro⟨i,j,d1⟩ ⟨f,hi,_,g,c⟩;simp only at f hi g c;by_cases h:i<j
 .refine bM [(13,W)] Z ?_ (I.aQ (i+1,j-1,swp d1 i j) Z ?_ ?_ ?_ ?_)
  .simp only[aA,b8,bZ,cd,bu,aX,aW];and_intros<;>omega
  .exact c9
  .simp only[aA.eu,aA,b8,bZ,aW,aX];exact km f aq aq (λ_ _=>rfl)
  .refine⟨by grind[iS],by grind,by grind,by grind,?_⟩;rw[<-c,reverseLoop.eq_1 i j d1,bh h]
  grind
 have e:reverseRange d a b=d1:=by rw[<-c,reverseLoop,bc h]
 rw[e];refine ba [(13,ae)] Z c6 (I.br Z Z ?_);exact cM.sX [0] Z an Z Z Z kK
def Jy(n:Nat)(d:Array Int){lo hi first:Nat}(e:d.size=n)(b:first+hi<=n)(a:lo<=n)(h:n<=4000000){x y z:Int}(f:x=lo)(c:y=hi)(g:z=first):
  Ev X 197 [m7 n,dI x,dI y,dI z] [bI n d] (.gI []) [bI n (siftDown ltInt hi first lo d)]:=by grind[YH]
def EG(hi first:Nat):∀(m root:Nat)(d:Array Int),hi-root<=m->(siftDown ltInt hi first root d).size=d.size:=by
 intro m;induction m with
 |zero=>intro root d h;rw[siftDown,dif_pos aq]
 |succ m a =>
  intro root d h;rw[siftDown];grind[iS]
theorem YE(n:Nat)(d:Array Int)(a b:Nat)(o:d.size=n)(q:a<=b)(r:1<=b-a)(m:b<=n)(i:n<=4000000):Ev X 158 [m7 n,dI a,dI b] [bI n d] (.gI []) [bI n (heapSort ltInt d a b)]:=by
 refine Ev.bQ Tryz.func158 rfl λt=>?_;obtain⟨l,rfl⟩:∃l,b=a+l:=⟨b-a,by omega⟩
 rw[EY]at r;refine dj Z Zo (I.nH (S2:=Array Int) 0 Z Z (λd2=>d2.size=n/\d2=heapBuild ltInt l a ((l-1) / 2+1) d) (λ_=>[(0,m7 n),(6,dI a),(7,dI 0),(8,dI l)]) (λd2=>[bI n d2]) 1 (λs:Nat×Array Int=>s.2.size=n/\s.1<=(l-1) / 2+1/\heapBuild ltInt l a s.1 s.2=heapBuild ltInt l a ((l-1) / 2+1) d) (λs=>[(0,m7 n),(6,dI a),(7,dI 0),(8,dI l),(9,dI ((s.1:Int)-1))]) (λs=>[bI n s.2]) (λs=>s.1) ((l-1) / 2+1,d) Z c6 Z ay Z ⟨o,bm _,Z⟩ ?_ ?_)
 .rintro gf ⟨k,d1⟩ ⟨e,hk,c⟩;simp only at e hk c;cases k with
  |zero =>
   refine ba [(19,ae)] Z ay (I.br Z Z ?_);exact gf d1 ⟨e,c⟩ Z ay Z ay
  |succ k =>
   refine ba [(19,W)] rfl ay (I.cQ (Jy n d1 (lo:=k) (hi:=l) (first:=a) e m aq i aq rfl rfl) [0] rfl (dj rfl ?_ (I.aQ (k,siftDown ltInt l a k d1) rfl ?_ ?_ ?_ ?_)))
   .simp only[aA,cd];omega
   .simp
   .simp
   .exact⟨by rw[EG _ _ _ _ _ (bm _)];exact e,by grind,c⟩
   simp
 rintro h ⟨g,p⟩;refine dj Z ek ?_;have f:heapSort ltInt d a (a+l)=heapPop ltInt a l h:=by unfold heapSort;grind
 rw[f];refine I.cm 1 (λs:Nat×Array Int=>s.2.size=n/\s.1<=l/\heapPop ltInt a s.1 s.2=heapPop ltInt a l h) (λs=>[(0,m7 n),(6,dI a),(7,dI 0),(8,dI l),(10,dI ((s.1:Int)-1))]) (λs=>[bI n s.2]) (λs=>s.1) (l,h) Z ay Z ay Z ⟨g,bm _,Z⟩ ?_;rintro⟨k,d1⟩ ⟨e,hk,c⟩;simp only at e hk c;cases k with
 |zero =>
  rw[<-c];refine ba [(30,ae)] Z ay (I.br Z Z ?_);exact cM.sX [0] Z an Z Z Z kK
 |succ k =>
  have j:((a:Int)+(((k+1:Nat):Int)-1)).toNat=a+k:=aq;refine bM [(30,W),(1000011,W)] Z ?_ ?_
  .simp only[aA,b8,bZ,j,cd,bu,aX,aW];and_intros<;>omega
  refine I.kR [bI n (swp d1 a (a+k))] Z ?_ ?_
  .simp only[aA.eu,aA,b8,bZ,j,aW,aX];exact km e aq aq (λ_ _=>rfl)
  refine dj rfl an (I.cQ (Jy n (swp d1 a (a+k)) (lo:=0) (hi:=k) (first:=a) Hn aq aq i rfl aq rfl) [0] rfl (dj rfl ?_ (I.aQ (k,siftDown ltInt k a 0 (swp d1 a (a+k))) rfl ?_ ?_ ?_ ?_)))
  .simp only[aA,cd];omega
  .simp
  .simp
  .exact⟨by rw[EG _ _ _ _ _ (bm _),iS];exact e,by grind,c⟩
  simp
end
section
open Go.Sort (bitsLen)
variable {X:Cx ag}
def Du:List UInt8:=(bl 256).map λi=>UInt8.ofNat (bitsLen i)
def mP{x k:Nat}(h:x<2 ^ k):bitsLen x<=k:=by
 unfold bitsLen;split
 .omega
 rename_i a;have:=(Nat.log2_lt a).2 h;omega
theorem YI{x:Nat}(h:x<256):(lM Du x).toNat=bitsLen x:=by unfold lM Du;rw[bZ,aj,qn,List.getElem?_range h];have:=mP (x:=x) (k:=8) h;grind[UInt8.toNat_ofNat']
def zn{k:Nat}(h:2 ^ k<=n):bitsLen n=k+bitsLen (n / 2 ^ k):=by
 have b:0<2 ^ k:=Nat.two_pow_pos k;have d:0<n / 2 ^ k:=Nat.div_pos h b;unfold bitsLen;rw[bc aq,bc aq];have c:Nat.log2 n=k+Nat.log2 (n / 2 ^ k):=by
  rw[Nat.log2_eq_iff aq];have a:=Nat.log2_self_le (n:=n / 2 ^ k) aq;have e:=Nat.lt_log2_self (n:=n / 2 ^ k);constructor
  .rw[Nat.pow_add,Nat.mul_comm];exact hZ (gX _ a) (Nat.div_mul_le_self n _)
  rw[show k+Nat.log2 (n / 2 ^ k)+1=k+(Nat.log2 (n / 2 ^ k)+1) by omega,Nat.pow_add];grind[Nat.div_lt_iff_lt_mul]
 omega
set_option maxRecDepth 100000 in
def Vp(n:Nat)(h:n<=4000000):Ev X 167 [dQ n] [] (dI (bitsLen n)) []:=by
 refine Ev.bQ Tryz.func167 rfl λg=>?_;have fin:∀{T:List UInt8} {x:Nat},T=Du->x<256->(lM T (x:Int)).toNat=bitsLen x:=λhT hx=>by grind[YI]
 have fl:∀{T:List UInt8},T=Du->V T=256:=λhT=>by rw[hT];rfl
 by_cases f:65536<=n
 .have b:((n:Int).toNat / 2 ^ Int.toNat 16)=n / 65536:=ay;have e:bitsLen n=16+bitsLen (n / 65536):=zn (n:=n) (k:=16) f;have c:=mP (x:=n / 65536) (k:=8) az;refine bM [(4,ae),(8,W),(14,ae)] Z ?_ (I.bE Z ?_)
  .generalize hT:(ByteArray.data _).toList=T;have a:T=Du:=DG;simp only[aA,b,fin a (show n / 65536<256 by omega),fl a,cd,bu,dm];and_intros<;>omega
  generalize hT:(ByteArray.data _).toList=T;have a:T=Du:=DG;simp only[aA,aA.eu,b,fin a (show n / 65536<256 by omega),aX,aW];omega
 by_cases d:256<=n
 .have b:((n:Int).toNat / 2 ^ Int.toNat 8)=n / 256:=ay;have e:bitsLen n=8+bitsLen (n / 256):=zn (n:=n) (k:=8) d;have c:=mP (x:=n / 256) (k:=8) az;refine bM [(4,ae),(8,ae),(14,W)] Z ?_ (I.bE Z ?_)
  .generalize hT:(ByteArray.data _).toList=T;have a:T=Du:=DG;simp only[aA,b,fin a (show n / 256<256 by omega),fl a,cd,bu,dm];and_intros<;>omega
  generalize hT:(ByteArray.data _).toList=T;have a:T=Du:=DG;simp only[aA,aA.eu,b,fin a (show n / 256<256 by omega),aX,aW];omega
 have c:=mP (x:=n) (k:=8) az;refine bM [(4,ae),(8,ae),(14,ae)] Z ?_ (I.bE Z ?_)
 .generalize hT:(ByteArray.data _).toList=T;have a:T=Du:=DG;simp only[aA,fin a (show n<256 by omega),fl a,cd,bu,dm];and_intros<;>omega
 generalize hT:(ByteArray.data _).toList=T;have a:T=Du:=DG;simp only[aA,aA.eu,fin a (show n<256 by omega),aX,aW];omega
def Vj(n:Nat)(a:n<=4000000):Ev X 103 [dQ n] [] (dI (bitsLen n)) []:=by refine Ev.bQ Tryz.func103 rfl λb=>?_;refine dj Z an ?_;refine I.NB ?_;refine dj Z an ?_;refine I.cQ (Vp n a) [] Z ?_;exact dj Z an (I.bE Z)
end
section
open Go.Sort (swp bitsLen xorNextN xorNextN_lt xorNext xorNext_toNat breakStep breakPatterns)
variable {X:Cx ag}
abbrev bQ(r:Nat):bq:=.cells 269 [.c (.int .u64 r)]
def YJ(r:Nat):Ev X 199 [cE 0 0] [bQ r] (dQ (xorNextN r)) [bQ (xorNextN r)]:=by refine Ev.bQ Tryz.func199 rfl λc=>?_;have a:(2:Nat) ^ Int.toNat 13=8192:=ee;have d:(2:Nat) ^ Int.toNat 7=128:=ee;have b:(2:Nat) ^ Int.toNat 17=131072:=ee;refine dj Z ay ?_;refine I.kR [bQ (xorNextN r)] Z ek (I.dt [0] Z ?_ Z Z Z kK);exact ek
theorem YK(n:Nat)(a:n<=4000000):Ev X 198 [dI n] [] (dQ ((1 <<< bitsLen n:Nat):Int)) []:=by refine Ev.bQ Tryz.func198 rfl λb=>?_;have l:=mP (x:=n) (k:=22) az;refine dj Z ek ?_;refine I.cQ (Vj n a) [] Z ?_;refine dj Z c9 (I.bE Z ?_);have c:2 ^ bitsLen n<=2 ^ 22:=Nat.pow_le_pow_right aq l;simp only[aA,aA.eu,Nat.shiftLeft_eq,bZ];grind
def Jz{L:Nat}(h:0<L):1 <<< bitsLen L<=2*L:=by rw[Nat.shiftLeft_eq,Nat.one_mul];unfold bitsLen;rw[bc aq,Nat.pow_succ];grind[Nat.log2_self_le]
def Vq(L:Nat):1<=1 <<< bitsLen L:=by rw[Nat.shiftLeft_eq,Nat.one_mul];grind
def bpR(a L M:Nat):Nat->Nat->UInt64×Array Int->UInt64×Array Int
 |0,_,st=>st
 |k+1,idx,st=>bpR a L M k (idx+1) (breakStep a L M st idx)
def yL{d:Array Int}{a L:Nat}(h:8<=L):breakPatterns d a (a+L)=(bpR a L (1 <<< bitsLen L) 3 (a+L / 4*2-1) (UInt64.ofNat L,d)).2:=by unfold breakPatterns;simp only[EY];exact ek
def GV{a L M idx:Nat}{r:UInt64}{d:Array Int}:breakStep a L M (r,d) idx=(xorNext r,swp d idx (a+if(xorNextN r.toNat &&& (M-1))≥L then(xorNextN r.toNat &&& (M-1))-L else(xorNextN r.toNat &&& (M-1)))):=by unfold breakStep;simp only[xorNext_toNat]
abbrev ak1(n a L M:Nat)(k:Nat):Fr:=[(0,m7 n),(1,dI a),(6,dI L),(7,cE 1 0),(8,dQ M),(9,dI ((a+L / 4*2-1+(3-k):Nat):Int))]
def Vh(n:Nat)(d:Array Int)(a b:Nat)(u:d.size=n)(t:a<=b)(z:b<=n)(A:n<=4000000):
  Ev X 159 [m7 n,dI a,dI b] [bI n d] (.gI []) [bI n (breakPatterns d a b)]:=by
 refine Ev.bQ Tryz.func159 rfl λw=>?_;obtain⟨L,rfl⟩:∃L,b=a+L:=⟨b-a,by omega⟩
 by_cases o:8<=L
 .rw[yL o];have y:=Jz (L:=L) aq;have v:=Vq L;have p:(UInt64.ofNat L).toNat=L:=by grind[UInt64.toNat_ofNat']
  refine bM [(15,W)] Z Kg ?_;have key:∀x:Int,x=(L:Int)->Ev X 198 [dI x] [] (dQ ((1 <<< bitsLen L:Nat):Int)) []:=by grind[YK]
  refine I.cQ (key _ aq) [] Z (dj Z Kg ?_);generalize q:1 <<< bitsLen L=M at *;refine I.cm 2 (λs:Nat×UInt64×Array Int=>s.2.2.size=n/\s.1<=3/\(bpR a L M s.1 (a+L / 4*2-1+(3-s.1)) s.2).2=(bpR a L M 3 (a+L / 4*2-1) (UInt64.ofNat L,d)).2) (λs=>ak1 n a L M s.1) (λs=>[bI n s.2.2,bQ s.2.1.toNat]) (λs=>s.1) (3,UInt64.ofNat L,d) Z ?_ Z ?_ Z ⟨u,bm _,Z⟩ ?_
  .simp only[aA.eu,aA,aX,aW];and_intros<;>omega
  .exact c9
  rintro⟨k,r,d1⟩ ⟨l,hk,c⟩;simp only at l hk c;cases k with
  |zero =>
   rw[<-c];refine bM [(33,ae)] Z ?_ (I.br Z Z ?_)
   .simp only[aA,cd,dm,aX,aW];and_intros<;>omega
   exact cM.sX [0] Z an Z Z Z kK
  |succ k =>
   have B:xorNextN r.toNat<18446744073709551616:=xorNextN_lt _ (UInt64.toNat_lt r);have m:xorNextN r.toNat &&& (M-1)<=M-1:=Nat.and_le_right;have i:((M:Int)-1).toNat=M-1:=aq;refine bM [(33,W)] Z Kg (I.cQ (YJ r.toNat) [1] Z ?_);have f:=GV (a:=a) (L:=L) (M:=M) (idx:=a+L / 4*2-1+(3-(k+1))) (r:=r) (d:=d1);generalize j:xorNextN r.toNat &&& (M-1)=aa at *;by_cases g:L<=aa
   .rw[bh g]at f;have h:((a:Int)+((aa:Int)-(L:Int))).toNat=a+(aa-L):=aq;refine bM [(43,W)] Z ?_ (I.aQ (k,xorNext r,swp d1 (a+L / 4*2-1+(3-(k+1))) (a+(aa-L))) Z ?_ ?_ ?_ ?_)
    .simp only[aA,b8,bZ,i,j,h,cd,bu,aX,aW];and_intros<;>omega
    .simp only[aA.eu,aA,aX,aW];omega
    .simp only[aA.eu,aA,b8,bZ,i,j,h,xorNext_toNat,aW,aX];exact km l aq aq (λ_ _=>rfl)
    .refine⟨by grind[iS],by grind,?_⟩;rw[<-c,bpR,f,show a+L / 4*2-1+(3-(k+1))+1=a+L / 4*2-1+(3-k) by omega]
    simp
   rw[bc g]at f;have h:((a:Int)+(aa:Int)).toNat=a+aa:=aq;refine bM [(43,ae)] Z ?_ (I.aQ (k,xorNext r,swp d1 (a+L / 4*2-1+(3-(k+1))) (a+aa)) Z ?_ ?_ ?_ ?_)
   .simp only[aA,b8,bZ,i,j,h,cd,dm,aX,aW];and_intros<;>omega
   .simp only[aA.eu,aA,aX,aW];omega
   .simp only[aA.eu,aA,b8,bZ,i,j,h,xorNext_toNat,aW,aX];exact km l aq aq (λ_ _=>rfl)
   .refine⟨by grind[iS],by grind,?_⟩;rw[<-c,bpR,f,show a+L / 4*2-1+(3-(k+1))+1=a+L / 4*2-1+(3-k) by omega]
   simp
 have e:breakPatterns d a (a+L)=d:=by unfold breakPatterns;grind
 rw[e];exact bM [(15,ae)] Z ek (cM.sX [0] Z an Z Z Z kK)
end
section
open Go.Sort (swp scanUp scanDown partLoop partEqLoop partition partitionEqual ltInt)
variable {X:Cx ag}
theorem qj{p:Int->Bool}{d:Array Int}(h:i<=j)(a:p d[i]! = W):scanUp p d j i=scanUp p d j (i+1):=by rw[scanUp.eq_1 p d j i,bh az]
theorem tg{p:Int->Bool}{d:Array Int}(h:i<=j->p d[i]! = ae):scanUp p d j i=i:=by rw[scanUp,bc];grind
theorem na{p:Int->Bool}{d:Array Int}(c:1<=j)(h:i<=j)(b:p d[j]! = W):scanDown p d i j=scanDown p d i (j-1):=by
 obtain⟨j,rfl⟩:∃a,j=a+1:=⟨j-1,by omega⟩
 rw[scanDown,bh az,pH]
theorem qo{p:Int->Bool}{d:Array Int}(h:i<=j->p d[j]! = ae):scanDown p d i j=j:=by
 cases j with
 |zero=>rfl
 |succ j =>
  rw[scanDown,bc];grind
def rH{p:Int->Bool}{d:Array Int}:∀(m i:Nat),j+1-i<=m->i<=scanUp p d j i/\(scanUp p d j i<=j+1∨scanUp p d j i=i):=by
 intro m;induction m with
 |zero=>intro i h;rw[tg (λa=>by omega)];omega
 |succ m c =>
  intro i h;by_cases b:i<=j
  .cases a:p d[i]! with
   |true=>grind[qj]
   |false=>grind[tg]
  grind
def nR{p:Int->Bool}{d:Array Int}:∀j:Nat,scanDown p d i j<=j/\(i<=scanDown p d i j+1∨scanDown p d i j=j):=by
 intro j;induction j with
 |zero=>rw[show scanDown p d i 0=0 from rfl];omega
 |succ j c =>
  by_cases b:i<=j+1
  .cases a:p d[j+1]! with
   |true=>grind[na]
   |false=>grind[qo]
  grind[qo]
def JA{a:Nat}{d:Array Int}{i2 j2:Nat}(f:1<=i)(hi:i2=scanUp (λx=>ltInt x d[a]!) d j i)(b:j2=scanDown (λx=>!ltInt x d[a]!) d i2 j):
  partLoop ltInt a i j d=if i2>j2 then(j2,d)else partLoop ltInt a (i2+1) (j2-1) (swp d i2 j2):=by have c:=rH (p:=λx=>ltInt x d[a]!) (d:=d) (j:=j) (j+1-i) i (bm _);have e:=nR (p:=λx=>!ltInt x d[a]!) (d:=d) (i:=i2) j;rw[<-hi]at c;rw[<-b]at e;rw[partLoop.eq_1,<-hi,<-b];grind
def JB{d c:Array Int}{a v:Nat}(e:c=swp d a v)(hi:i=scanUp (λx=>ltInt x c[a]!) c (b-1) (a+1))(f:j=scanDown (λx=>!ltInt x c[a]!) c i (b-1))(h:i>j):partition ltInt d a b v=(j,W,swp c j a):=by unfold partition;grind
def JC{d c:Array Int}{a v:Nat}(f:c=swp d a v)(hi:i=scanUp (λx=>ltInt x c[a]!) c (b-1) (a+1))(g:j=scanDown (λx=>!ltInt x c[a]!) c i (b-1))(h:¬i>j){r:Nat×Array Int}(e:partLoop ltInt a (i+1) (j-1) (swp c i j)=r):partition ltInt d a b v=(r.1,ae,swp r.2 r.1 a):=by subst e;unfold partition;grind
def YF(n:Nat)(d:Array Int)(a b v:Nat)(T:d.size=n)(R:a<b)(Y:b<=n)(ab:v<n)(Z:n<=4000000):
  Ev X 165 [m7 n,dI a,dI b,dI v] [bI n d] (.gI [.bX (.c (.int .i64 (partition ltInt d a b v).1)),.bX (.c (.bool (partition ltInt d a b v).2.1))]) [bI n (partition ltInt d a b v).2.2]:=by
 have h:b5 X [(163,zm)]:=.cons CF .nil;refine Ev.bQ Tryz.func165 rfl λak=>?_;refine bj h [(1000002,W)] aK c9 (I.kR [bI n (swp d a v)] aK ?_ ?_)
 .simp only[aA.eu,aA,b8,bZ,aW,aX];exact km T aq aq (λ_ _=>rfl)
 have o:(swp d a v).size=n:=Hn;obtain⟨f,aa⟩:∃f,f=swp d a v:=⟨_,rfl⟩;rw[<-aa]at o⊢;refine cY h aK ?_ ?_
 .simp only[aA,cd];and_intros<;>omega
 refine I.nH (S2:=Unit) 0 aK aK (λ_=>True) (λ_=>[(0,m7 n),(1,dI a),(10,dI ((scanUp (λx=>ltInt x f[a]!) f (b-1) (a+1)):Nat)),(11,dI (b-1:Nat))]) (λ_=>[bI n f]) 1 (λk:Nat=>a+1<=k/\k<=n+1/\scanUp (λx=>ltInt x f[a]!) f (b-1) k=scanUp (λx=>ltInt x f[a]!) f (b-1) (a+1)) (λk=>[(0,m7 n),(1,dI a),(10,dI (k:Nat)),(11,dI (b-1:Nat))]) (λ_=>[bI n f]) (λk=>b-1+1-k) (a+1) aK ek aK ay aK ⟨bm _,by omega,aK⟩ ?_ ?_
 .rintro gf k ⟨t,y,w⟩;by_cases u:k<=b-1
  .by_cases M:(λx=>ltInt x f[a]!) f[k]! = W
   .have g:ltInt f[k]! f[a]! = W:=az;refine bj h [(32,W),(42,W)] aK ?_ (I.aQ (k+1) aK ?_ ?_ ?_ ?_)
    .simp only[aA,b8,bZ,g,cd,bu,aX,aW];and_intros<;>omega
    .simp
    .simp
    .grind [qj]
    omega
   have g:ltInt f[k]! f[a]! = ae:=az;refine bj h [(32,W),(42,ae)] aK ?_ (I.br aK aK ?_)
   .simp only[aA,b8,bZ,g,cd,bu,aX,aW];and_intros<;>omega
   have e:scanUp (λx=>ltInt x f[a]!) f (b-1) (a+1)=k:=DI;exact gf () an aK c9 aK ay
  refine bj h [(32,ae)] aK c9 (I.br aK aK ?_);have e:scanUp (λx=>ltInt x f[a]!) f (b-1) (a+1)=k:=DI;exact gf () an aK c9 aK ay
 rintro⟨⟩ -;have Q:=rH (p:=λx=>ltInt x f[a]!) (d:=f) (j:=b-1) (b-1+1-(a+1)) (a+1) (bm _);obtain⟨i,hi⟩:∃i,i=scanUp (λx=>ltInt x f[a]!) f (b-1) (a+1):=⟨_,rfl⟩
 rw[<-hi]at Q⊢;refine cY h aK an (I.nH (S2:=Unit) 2 aK aK (λ_=>True) (λ_=>[(0,m7 n),(1,dI a),(10,dI (i:Nat)),(11,dI ((scanDown (λx=>!ltInt x f[a]!) f (i) (b-1)):Nat))]) (λ_=>[bI n f]) 1 (λk:Nat=>k<=b-1/\k<=n/\scanDown (λx=>!ltInt x f[a]!) f (i) k=scanDown (λx=>!ltInt x f[a]!) f (i) (b-1)) (λk=>[(0,m7 n),(1,dI a),(10,dI (i:Nat)),(11,dI (k:Nat))]) (λ_=>[bI n f]) (λk=>k) (b-1) aK ?_ aK ?_ aK ⟨bm _,by omega,aK⟩ ?_ ?_)
 .simp[eW]<;>omega
 .simp
 .rintro gf k ⟨t,y,w⟩;by_cases u:i<=k
  .by_cases M:(λx=>!ltInt x f[a]!) f[k]! = W
   .have g:ltInt f[k]! f[a]! = ae:=az;refine bj h [(48,W),(58,ae)] aK ?_ (I.aQ (k-1) aK ?_ ?_ ?_ ?_)
    .simp only[aA,b8,bZ,g,cd,bu,aX,aW];and_intros<;>omega
    .exact c9
    .simp
    .exact⟨by omega,by omega,by grind[na]⟩
    omega
   have g:ltInt f[k]! f[a]! = W:=az;refine bj h [(48,W),(58,W)] aK ?_ (I.br aK aK ?_)
   .simp only[aA,b8,bZ,g,cd,bu,aX,aW];and_intros<;>omega
   have e:scanDown (λx=>!ltInt x f[a]!) f (i) (b-1)=k:=DH;exact gf () an aK c9 aK ay
  refine bj h [(48,ae)] aK c9 (I.br aK aK ?_);have e:scanDown (λx=>!ltInt x f[a]!) f (i) (b-1)=k:=DH;exact gf () an aK c9 aK ay
 rintro⟨⟩ -;have S:=nR (p:=λx=>!ltInt x f[a]!) (d:=f) (i:=i) (b-1);obtain⟨j,H⟩:∃j,j=scanDown (λx=>!ltInt x f[a]!) f i (b-1):=⟨_,rfl⟩
 rw[<-H]at S⊢;by_cases L:j<i
 .rw[JB aa hi H L];refine bj h [(65,W),(1000009,W)] aK c9 (I.kR [bI n (swp f j a)] aK ?_ ?_)
  .simp only[aA.eu,aA,b8,bZ,aW,aX];exact km o aq aq (λ_ _=>rfl)
  refine cY h aK an (I.dt [0] aK ?_ aK aK aK kK);simp
 refine bj h [(65,ae),(1000011,W)] aK c9 (I.kR [bI n (swp f i j)] aK ?_ ?_)
 .simp only[aA.eu,aA,b8,bZ,aW,aX];exact km o aq aq (λ_ _=>rfl)
 refine cY h aK ?_ ?_
 .simp only[aA,cd];and_intros<;>omega
 have B:(swp f i j).size=n:=Hn;obtain⟨r,P⟩:∃r,partLoop ltInt a (i+1) (j-1) (swp f i j)=r:=⟨_,rfl⟩;rw[JC aa hi H aq P]
 obtain⟨d1,J⟩:∃d1,d1=swp f i j:=⟨_,rfl⟩;rw[<-J]at B P⊢;refine I.nH (S2:=Unit) 4 aK aK (λ_=>r.1<n/\r.2.size=n) (λ_=>[(0,m7 n),(1,dI a),(11,dI r.1)]) (λ_=>[bI n r.2]) 1 (λs:Nat×Nat×Array Int=>s.2.2.size=n/\a+1<=s.1/\s.1<=n+1/\s.2.1<n/\partLoop ltInt a s.1 s.2.1 s.2.2=r) (λs=>[(0,m7 n),(1,dI a),(10,dI s.1),(11,dI s.2.1)]) (λs=>[bI n s.2.2]) (λs=>s.2.1+1-s.1) (i+1,j-1,d1) aK c9 aK ay aK ⟨B,by grind,by grind,by grind,P⟩ ?_ ?_
 .rintro D ⟨i3,l,d2⟩ ⟨A,K,F,N,m⟩;simp only at A K F N m;refine cY h aK an (I.nH (S2:=Unit) 6 aK aK (λ_=>True) (λ_=>[(0,m7 n),(1,dI a),(10,dI ((scanUp (λx=>ltInt x d2[a]!) d2 (l) (i3)):Nat)),(11,dI (l:Nat))]) (λ_=>[bI n d2]) 1 (λk:Nat=>i3<=k/\k<=n+1/\scanUp (λx=>ltInt x d2[a]!) d2 (l) k=scanUp (λx=>ltInt x d2[a]!) d2 (l) (i3)) (λk=>[(0,m7 n),(1,dI a),(10,dI (k:Nat)),(11,dI (l:Nat))]) (λ_=>[bI n d2]) (λk=>l+1-k) (i3) aK ?_ aK ?_ aK ⟨bm _,by omega,aK⟩ ?_ ?_)
  .simp[eW]<;>omega
  .simp
  .rintro gf k ⟨t,y,w⟩;by_cases u:k<=l
   .by_cases M:(λx=>ltInt x d2[a]!) d2[k]! = W
    .have g:ltInt d2[k]! d2[a]! = W:=az;refine bj h [(101,W),(111,W)] aK ?_ (I.aQ (k+1) aK ?_ ?_ ?_ ?_)
     .simp only[aA,b8,bZ,g,cd,bu,aX,aW];and_intros<;>omega
     .simp
     .simp
     .grind [qj]
     omega
    have g:ltInt d2[k]! d2[a]! = ae:=az;refine bj h [(101,W),(111,ae)] aK ?_ (I.br aK aK ?_)
    .simp only[aA,b8,bZ,g,cd,bu,aX,aW];and_intros<;>omega
    have e:scanUp (λx=>ltInt x d2[a]!) d2 (l) (i3)=k:=DI;exact gf () an aK c9 aK ay
   refine bj h [(101,ae)] aK c9 (I.br aK aK ?_);have e:scanUp (λx=>ltInt x d2[a]!) d2 (l) (i3)=k:=DI;exact gf () an aK c9 aK ay
  rintro⟨⟩ -;have c1:=rH (p:=λx=>ltInt x d2[a]!) (d:=d2) (j:=l) (l+1-i3) i3 (bm _);obtain⟨i4,G⟩:∃i4,i4=scanUp (λx=>ltInt x d2[a]!) d2 l i3:=⟨_,rfl⟩
  rw[<-G]at c1⊢;refine cY h aK an (I.nH (S2:=Unit) 8 aK aK (λ_=>True) (λ_=>[(0,m7 n),(1,dI a),(10,dI (i4:Nat)),(11,dI ((scanDown (λx=>!ltInt x d2[a]!) d2 (i4) (l)):Nat))]) (λ_=>[bI n d2]) 1 (λk:Nat=>k<=l/\k<=n/\scanDown (λx=>!ltInt x d2[a]!) d2 (i4) k=scanDown (λx=>!ltInt x d2[a]!) d2 (i4) (l)) (λk=>[(0,m7 n),(1,dI a),(10,dI (i4:Nat)),(11,dI (k:Nat))]) (λ_=>[bI n d2]) (λk=>k) (l) aK ?_ aK ?_ aK ⟨bm _,by omega,aK⟩ ?_ ?_)
  .simp[eW]<;>omega
  .simp
  .rintro gf k ⟨t,y,w⟩;by_cases u:i4<=k
   .by_cases M:(λx=>!ltInt x d2[a]!) d2[k]! = W
    .have g:ltInt d2[k]! d2[a]! = ae:=az;refine bj h [(117,W),(127,ae)] aK ?_ (I.aQ (k-1) aK ?_ ?_ ?_ ?_)
     .simp only[aA,b8,bZ,g,cd,bu,aX,aW];and_intros<;>omega
     .exact c9
     .simp
     .exact⟨by omega,by omega,by grind[na]⟩
     omega
    have g:ltInt d2[k]! d2[a]! = W:=az;refine bj h [(117,W),(127,W)] aK ?_ (I.br aK aK ?_)
    .simp only[aA,b8,bZ,g,cd,bu,aX,aW];and_intros<;>omega
    have e:scanDown (λx=>!ltInt x d2[a]!) d2 (i4) (l)=k:=DH;exact gf () an aK c9 aK ay
   refine bj h [(117,ae)] aK c9 (I.br aK aK ?_);have e:scanDown (λx=>!ltInt x d2[a]!) d2 (i4) (l)=k:=DH;exact gf () an aK c9 aK ay
  rintro⟨⟩ -;have c2:=nR (p:=λx=>!ltInt x d2[a]!) (d:=d2) (i:=i4) l;obtain⟨z,E⟩:∃z,z=scanDown (λx=>!ltInt x d2[a]!) d2 i4 l:=⟨_,rfl⟩
  rw[<-E]at c2⊢;have q:=JA aq G E;by_cases C:z<i4
  .have e:=q;rw[m,bh C]at e;refine bj h [(134,W)] aK c9 (I.br aK aK ?_);exact D () az aK Zz aK DK
  have e:=q;rw[m,bc aq]at e;refine bj h [(134,ae),(1000019,W)] aK ?_ ?_
  .simp only[aA,b8,bZ,cd,dm,aX,aW];and_intros<;>omega
  refine I.kR [bI n (swp d2 i4 z)] aK ?_ ?_
  .simp only[aA.eu,aA,b8,bZ,aW,aX];exact km A aq aq (λ_ _=>rfl)
  refine cY h aK ?_ (I.aQ (i4+1,z-1,swp d2 i4 z) aK ?_ ?_ ?_ ?_)
  .simp only[aA,cd];and_intros<;>omega
  .exact c9
  .simp
  .grind [iS]
  grind
 rintro⟨⟩ ⟨U,AK⟩;refine bj h [(1000022,W)] aK c9 (I.kR [bI n (swp r.2 r.1 a)] aK ?_ ?_)
 .simp only[aA.eu,aA,b8,bZ,aW,aX];exact km AK aq aq (λ_ _=>rfl)
 refine cY h aK an (I.dt [0] aK ?_ aK aK aK kK);simp
def Dv{a:Nat}{d:Array Int}{i2 j2:Nat}(f:1<=i)(hi:i2=scanUp (λx=>!ltInt d[a]! x) d j i)(b:j2=scanDown (λx=>ltInt d[a]! x) d i2 j):
  partEqLoop ltInt a i j d=if i2>j2 then(i2,d)else partEqLoop ltInt a (i2+1) (j2-1) (swp d i2 j2):=by have c:=rH (p:=λx=>!ltInt d[a]! x) (d:=d) (j:=j) (j+1-i) i (bm _);have e:=nR (p:=λx=>ltInt d[a]! x) (d:=d) (i:=i2) j;rw[<-hi]at c;rw[<-b]at e;rw[partEqLoop.eq_1,<-hi,<-b];grind
def PZ(n:Nat)(d:Array Int)(a b v:Nat)(J:d.size=n)(H:a<b)(aa:b<=n)(N:v<n)(P:n<=4000000):
  Ev X 164 [m7 n,dI a,dI b,dI v] [bI n d] (dI (partitionEqual ltInt d a b v).1) [bI n (partitionEqual ltInt d a b v).2]:=by
 have g:b5 X [(163,zm)]:=.cons CF .nil;refine Ev.bQ Tryz.func164 rfl λM=>?_;refine bj g [(1000002,W)] Z c9 (I.kR [bI n (swp d a v)] Z ?_ ?_)
 .simp only[aA.eu,aA,b8,bZ,aW,aX];exact km J aq aq (λ_ _=>rfl)
 have z:(swp d a v).size=n:=Hn;unfold partitionEqual;generalize swp d a v=d1 at *;obtain⟨r,G⟩:∃r,partEqLoop ltInt a (a+1) (b-1) d1=r:=⟨_,rfl⟩;rw[G];refine cY g Z ?_ ?_
 .simp only[aA,cd];and_intros<;>omega
 refine I.nH (S2:=Unit) 0 Z Z (λ_=>r.1<=n+1/\r.2.size=n) (λ_=>[(0,m7 n),(1,dI a),(9,dI r.1)]) (λ_=>[bI n r.2]) 1 (λs:Nat×Nat×Array Int=>s.2.2.size=n/\a+1<=s.1/\s.1<=n+1/\s.2.1<n/\partEqLoop ltInt a s.1 s.2.1 s.2.2=r) (λs=>[(0,m7 n),(1,dI a),(9,dI s.1),(10,dI s.2.1)]) (λs=>[bI n s.2.2]) (λs=>s.2.1+1-s.1) (a+1,b-1,d1) Z c9 Z ay Z ⟨z,by grind,by grind,by grind,G⟩ ?_ ?_
 .rintro t ⟨i3,c,d2⟩ ⟨m,C,w,E,h⟩;simp only at m C w E h;refine cY g Z an (I.nH (S2:=Unit) 2 Z Z (λ_=>True) (λ_=>[(0,m7 n),(1,dI a),(9,dI ((scanUp (λx=>!ltInt d2[a]! x) d2 (c) (i3)):Nat)),(10,dI (c:Nat))]) (λ_=>[bI n d2]) 1 (λk:Nat=>i3<=k/\k<=n+1/\scanUp (λx=>!ltInt d2[a]! x) d2 (c) k=scanUp (λx=>!ltInt d2[a]! x) d2 (c) (i3)) (λk=>[(0,m7 n),(1,dI a),(9,dI (k:Nat)),(10,dI (c:Nat))]) (λ_=>[bI n d2]) (λk=>c+1-k) (i3) Z ?_ Z ?_ Z ⟨bm _,by omega,Z⟩ ?_ ?_)
  .simp[eW]<;>omega
  .simp
  .rintro gf k ⟨A,F,D⟩;by_cases B:k<=c
   .by_cases K:(λx=>!ltInt d2[a]! x) d2[k]! = W
    .have f:ltInt d2[a]! d2[k]! = ae:=az;refine bj g [(31,W),(41,ae)] Z ?_ (I.aQ (k+1) Z ?_ ?_ ?_ ?_)
     .simp only[aA,b8,bZ,f,cd,bu,aX,aW];and_intros<;>omega
     .simp
     .simp
     .grind [qj]
     omega
    have f:ltInt d2[a]! d2[k]! = W:=az;refine bj g [(31,W),(41,W)] Z ?_ (I.br Z Z ?_)
    .simp only[aA,b8,bZ,f,cd,bu,aX,aW];and_intros<;>omega
    have e:scanUp (λx=>!ltInt d2[a]! x) d2 (c) (i3)=k:=DI;exact gf () an Z c9 Z ay
   refine bj g [(31,ae)] Z c9 (I.br Z Z ?_);have e:scanUp (λx=>!ltInt d2[a]! x) d2 (c) (i3)=k:=DI;exact gf () an Z c9 Z ay
  rintro⟨⟩ -;have c1:=rH (p:=λx=>!ltInt d2[a]! x) (d:=d2) (j:=c) (c+1-i3) i3 (bm _);obtain⟨i4,y⟩:∃i4,i4=scanUp (λx=>!ltInt d2[a]! x) d2 c i3:=⟨_,rfl⟩
  rw[<-y]at c1⊢;refine cY g Z an (I.nH (S2:=Unit) 4 Z Z (λ_=>True) (λ_=>[(0,m7 n),(1,dI a),(9,dI (i4:Nat)),(10,dI ((scanDown (λx=>ltInt d2[a]! x) d2 (i4) (c)):Nat))]) (λ_=>[bI n d2]) 1 (λk:Nat=>k<=c/\k<=n/\scanDown (λx=>ltInt d2[a]! x) d2 (i4) k=scanDown (λx=>ltInt d2[a]! x) d2 (i4) (c)) (λk=>[(0,m7 n),(1,dI a),(9,dI (i4:Nat)),(10,dI (k:Nat))]) (λ_=>[bI n d2]) (λk=>k) (c) Z ?_ Z ?_ Z ⟨bm _,by omega,Z⟩ ?_ ?_)
  .simp[eW]<;>omega
  .simp
  .rintro gf k ⟨A,F,D⟩;by_cases B:i4<=k
   .by_cases K:(λx=>ltInt d2[a]! x) d2[k]! = W
    .have f:ltInt d2[a]! d2[k]! = W:=az;refine bj g [(48,W),(58,W)] Z ?_ (I.aQ (k-1) Z ?_ ?_ ?_ ?_)
     .simp only[aA,b8,bZ,f,cd,bu,aX,aW];and_intros<;>omega
     .exact c9
     .simp
     .exact⟨by omega,by omega,by grind[na]⟩
     omega
    have f:ltInt d2[a]! d2[k]! = ae:=az;refine bj g [(48,W),(58,ae)] Z ?_ (I.br Z Z ?_)
    .simp only[aA,b8,bZ,f,cd,bu,aX,aW];and_intros<;>omega
    have e:scanDown (λx=>ltInt d2[a]! x) d2 (i4) (c)=k:=DH;exact gf () an Z c9 Z ay
   refine bj g [(48,ae)] Z c9 (I.br Z Z ?_);have e:scanDown (λx=>ltInt d2[a]! x) d2 (i4) (c)=k:=DH;exact gf () an Z c9 Z ay
  rintro⟨⟩ -;have c2:=nR (p:=λx=>ltInt d2[a]! x) (d:=d2) (i:=i4) c;obtain⟨l,u⟩:∃l,l=scanDown (λx=>ltInt d2[a]! x) d2 i4 c:=⟨_,rfl⟩
  rw[<-u]at c2⊢;have q:=Dv aq y u;by_cases o:l<i4
  .have e:=q;rw[h,bh o]at e;refine bj g [(64,W)] Z c9 (I.br Z Z ?_);exact t () az Z Zz Z DK
  have e:=q;rw[h,bc aq]at e;refine bj g [(64,ae),(1000009,W)] Z c9 (I.kR [bI n (swp d2 i4 l)] Z ?_ ?_)
  .simp only[aA.eu,aA,b8,bZ,aW,aX];exact km m aq aq (λ_ _=>rfl)
  refine cY g Z ?_ (I.aQ (i4+1,l-1,swp d2 i4 l) Z ?_ ?_ ?_ ?_)
  .simp only[aA,cd];and_intros<;>omega
  .exact c9
  .simp
  .grind [iS]
  grind
 rintro⟨⟩ ⟨L,AK⟩;refine cY g Z an (I.dt [0] Z ?_ Z Z Z kK);simp
end
section
open Go.Sort (swp scanSorted shiftDown shiftUp partialIns partialInsertionSort ltInt)
variable {X:Cx ag}
theorem CG{d:Array Int}(h:i<b)(a:ltInt d[i]! d[i-1]! = ae):scanSorted ltInt d b i=scanSorted ltInt d b (i+1):=by rw[scanSorted.eq_1 ltInt d b i,bh az]
theorem sk{d:Array Int}(h:i<b->ltInt d[i]! d[i-1]! = W):scanSorted ltInt d b i=i:=by rw[scanSorted,bc];grind
def Vd{d:Array Int}:∀(m i:Nat),b-i<=m->i<=b->i<=scanSorted ltInt d b i/\scanSorted ltInt d b i<=b:=by
 intro m;induction m with
 |zero=>grind[sk]
 |succ m f =>
  intro i h c;by_cases e:i<b
  .cases a:ltInt d[i]! d[i-1]! with
   |false=>grind[CG]
   |true=>grind[sk]
  grind
theorem Ve{d:Array Int}(b:1<=j)(h:ltInt d[j]! d[j-1]! = W):shiftDown ltInt j d=shiftDown ltInt (j-1) (swp d j (j-1)):=by
 obtain⟨j,rfl⟩:∃a,j=a+1:=⟨j-1,by omega⟩
 simp only[pH]at h⊢;rw[shiftDown,bc kT]
theorem Jw{d:Array Int}(h:1<=j->ltInt d[j]! d[j-1]! = ae):shiftDown ltInt j d=d:=by
 cases j with
 |zero=>rfl
 |succ j =>
  have:=h aq;simp only[pH]at this;rw[shiftDown,bh az]
theorem Vf{d:Array Int}(a:j<b)(h:ltInt d[j]! d[j-1]! = W):shiftUp ltInt b j d=shiftUp ltInt b (j+1) (swp d j (j-1)):=by rw[shiftUp.eq_1 ltInt b j d,bh a,bc kT]
theorem Jx{d:Array Int}(h:j<b->ltInt d[j]! d[j-1]! = ae):shiftUp ltInt b j d=d:=by rw[shiftUp];grind
abbrev piF(n a b i s:Nat):Fr:=[(0,m7 n),(1,dI a),(2,dI b),(7,dI i),(8,dI (5-(s:Int)))]
def YC{a s:Nat}{d:Array Int}:partialIns ltInt a b (s+1) i d=(if scanSorted ltInt d b i=b then(d,W)else if b-a<50 then(d,ae)else
  partialIns ltInt a b s (scanSorted ltInt d b i) (if b-scanSorted ltInt d b i≥2 then shiftUp ltInt b (scanSorted ltInt d b i+1) (if scanSorted ltInt d b i-a≥2 then shiftDown ltInt (scanSorted ltInt d b i-1) (swp d (scanSorted ltInt d b i) (scanSorted ltInt d b i-1))else swp d (scanSorted ltInt d b i) (scanSorted ltInt d b i-1))else(if scanSorted ltInt d b i-a≥2 then shiftDown ltInt (scanSorted ltInt d b i-1) (swp d (scanSorted ltInt d b i) (scanSorted ltInt d b i-1))else swp d (scanSorted ltInt d b i) (scanSorted ltInt d b i-1)))):=rfl
def CH(n:Nat)(d:Array Int)(a b:Nat)(N:d.size=n)(M:a<b)(ak:b<=n)(ab:n<=4000000):
  Ev X 162 [m7 n,dI a,dI b] [bI n d] (dB (partialInsertionSort ltInt d a b).2) [bI n (partialInsertionSort ltInt d a b).1]:=by
 have g:b5 X [(163,zm)]:=.cons CF .nil;refine Ev.bQ Tryz.func162 rfl λU=>?_;obtain⟨r,L⟩:∃r,partialIns ltInt a b 5 (a+1) d=r:=⟨_,rfl⟩;have F:partialInsertionSort ltInt d a b=r:=L;rw[F];refine cY g Z ek ?_
 refine I.nH (S2:=Unit) 0 Z Z (λ_=>r.2=ae) (λ_=>[(0,m7 n)]) (λ_=>[bI n r.1]) 1 (λs:Nat×Nat×Array Int=>s.2.2.size=n/\s.1<=5/\a+1<=s.2.1/\s.2.1<=b/\partialIns ltInt a b s.1 s.2.1 s.2.2=r) (λs=>piF n a b s.2.1 s.1) (λs=>[bI n s.2.2]) (λs=>s.1) (5,a+1,d) Z ay Z ay Z ⟨N,by grind,by grind,by grind,L⟩ ?_ ?_
 .rintro z ⟨s,i,d1⟩ ⟨K,x,hi,q,f⟩;simp only at K x hi q f;cases s with
  |zero =>
   rw[partialIns]at f;refine bj g [(14,ae)] Z ay (I.br Z Z ?_);exact z () az Z ay Z (by simp[eW,<-f])
  |succ s =>
   rw[YC]at f;refine bj g [(14,W)] Z c9 (I.nH (S2:=Unit) 2 Z Z (λ_=>True) (λ_=>piF n a b (scanSorted ltInt d1 b i) (s+1)) (λ_=>[bI n d1]) 1 (λk:Nat=>i<=k/\k<=b/\scanSorted ltInt d1 b k=scanSorted ltInt d1 b i) (λk=>piF n a b k (s+1)) (λ_=>[bI n d1]) (λk=>b-k) i Z ay Z ay Z ⟨bm _,q,Z⟩ ?_ ?_)
   .rintro gf k ⟨aa,R,Q⟩;by_cases P:k<b
    .have y:((k:Int)-1).toNat=k-1:=aq;cases p:ltInt d1[k]! d1[k-1]! with
     |false =>
      refine bj g [(19,W),(30,ae)] Z ?_ (I.aQ (k+1) Z ?_ ?_ ?_ ?_)
      .simp only[aA,b8,bZ,y,p,cd,bu,aX,aW];and_intros<;>omega
      .simp
      .simp
      .grind [CG]
      omega
     |true =>
      refine bj g [(19,W),(30,W)] Z ?_ (I.br Z Z ?_)
      .simp only[aA,b8,bZ,y,p,cd,bu,aX,aW];and_intros<;>omega
      have e:scanSorted ltInt d1 b i=k:=by grind[sk]
      exact gf () an Z c9 Z ay
    refine bj g [(19,ae)] Z c9 (I.br Z Z ?_);have e:scanSorted ltInt d1 b i=k:=by grind[sk]
    exact gf () an Z c9 Z ay
   rintro⟨⟩ -;have c:=Vd (d:=d1) (b:=b) (b-i) i (bm _) q;obtain⟨i2,C⟩:∃i2,i2=scanSorted ltInt d1 b i:=⟨_,rfl⟩;rw[<-C]at c f⊢
   by_cases u:i2=b
   .rw[bh u]at f;rw[<-f];refine bj g [(37,W)] Z ?_ (I.gp (cM.mk [0] Z ?_ Z Z Z kK))
    .simp[u]
    simp
   rw[bc u]at f;by_cases A:b-a<50
   .rw[bh A]at f;rw[<-f];refine bj g [(37,ae),(41,W)] Z ?_ (I.gp (cM.mk [0] Z ?_ Z Z Z kK))
    .simp[cd];omega
    simp
   rw[bc A]at f;have y:((i2:Int)-1).toNat=i2-1:=aq;refine bj g [(37,ae),(41,ae),(1000012,W)] Z ?_ ?_
   .simp only[aA,b8,bZ,y,cd,dm,eC,dO,aX,aW];and_intros<;>omega
   refine I.kR [bI n (swp d1 i2 (i2-1))] Z ?_ ?_
   .simp only[aA.eu,aA,b8,bZ,y,aW,aX];exact km K aq aq (λ_ _=>rfl)
   have w:(swp d1 i2 (i2-1)).size=n:=Hn;obtain⟨d2,E⟩:∃d2,d2=swp d1 i2 (i2-1):=⟨_,rfl⟩;rw[<-E]at w f⊢;obtain⟨d3,m⟩:∃d3,d3=if i2-a≥2 then shiftDown ltInt (i2-1) d2 else d2:=⟨_,rfl⟩
   rw[<-m]at f;have Y:∀(j:Nat) (d:Array Int),(shiftDown ltInt j d).size=d.size:=by
    intro j;induction j with
    |zero=>intro d;rfl
    |succ j T =>
     intro d;rw[shiftDown];grind[iS]
   have H:d3.size=n:=az;apply I.tG (piF n a b i2 (s+1)) [bI n d3]
   .intro gf;by_cases J:i2-a≥2
    .rw[bh J]at m;refine bj g [(61,W)] Z Kg (I.nH (S2:=Unit) 4 Z Z (λ_=>True) (λ_=>piF n a b i2 (s+1)) (λ_=>[bI n d3]) 1 (λs:Nat×Array Int=>s.2.size=n/\s.1<b/\shiftDown ltInt s.1 s.2=d3) (λs2=>piF n a b i2 (s+1)++[(9,dI s2.1)]) (λs=>[bI n s.2]) (λs=>s.1) (i2-1,d2) Z c9 Z ay Z ⟨w,by grind,m.symm⟩ ?_ ?_)
     .rintro h ⟨j,d4⟩ ⟨o,D,l⟩;simp only at o D l;by_cases B:1<=j
      .have t:((j:Int)-1).toNat=j-1:=aq;cases p:ltInt d4[j]! d4[j-1]! with
       |true =>
        refine bj g [(65,W),(77,W)] Z ?_ (I.aQ (j-1,swp d4 j (j-1)) Z ?_ ?_ ?_ ?_)
        .simp only[aA,b8,bZ,t,p,cd,bu,aX,aW];and_intros<;>omega
        .exact c9
        .simp only[aA.eu,aA,b8,bZ,t,aW,aX];exact km o aq aq (λ_ _=>rfl)
        .grind [Ve]
        grind
       |false =>
        refine bj g [(65,W),(77,ae)] Z ?_ (I.br Z Z ?_)
        .simp only[aA,b8,bZ,t,p,cd,bu,aX,aW];and_intros<;>omega
        have e:d3=d4:=by grind[Jw]
        exact h () an Z ay Z DK
      refine bj g [(65,ae)] Z c9 (I.br Z Z ?_);have e:d3=d4:=by grind[Jw]
      exact h () an Z ay Z DK
     rintro⟨⟩ -;exact bj g [(1000018,W)] Z an (gf _ _ Z ay)
    rw[bc J]at m;rw[<-m];refine bj g [(61,ae),(1000018,W)] Z ?_ ?_
    .simp only[aA,cd,dm,aX,aW];and_intros<;>omega
    exact gf _ _ Z ay
   by_cases AK:b-i2≥2
   .rw[bh AK]at f;obtain⟨d5,v⟩:∃d5,shiftUp ltInt b (i2+1) d3=d5:=⟨_,rfl⟩;rw[v]at f;refine bj g [(98,W)] Z Kg ?_
    refine I.nH (S2:=Unit) 6 Z Z (λ_=>d5.size=n) (λ_=>piF n a b i2 (s+1)) (λ_=>[bI n d5]) 1 (λs:Nat×Array Int=>s.2.size=n/\1<=s.1/\s.1<=b/\shiftUp ltInt b s.1 s.2=d5) (λs2=>piF n a b i2 (s+1)++[(10,dI s2.1)]) (λs=>[bI n s.2]) (λs=>b-s.1) (i2+1,d3) Z ay Z ay Z ⟨H,by grind,by grind,v⟩ ?_ ?_
    .rintro h ⟨j,d4⟩ ⟨o,B,D,l⟩;simp only at o B D l;by_cases S:j<b
     .have t:((j:Int)-1).toNat=j-1:=aq;cases p:ltInt d4[j]! d4[j-1]! with
      |true =>
       refine bj g [(103,W),(115,W)] Z ?_ (I.aQ (j+1,swp d4 j (j-1)) Z ?_ ?_ ?_ ?_)
       .simp only[aA,b8,bZ,t,p,cd,bu,aX,aW];and_intros<;>omega
       .simp
       .simp only[aA.eu,aA,b8,bZ,t,aW,aX];exact km o aq aq (λ_ _=>rfl)
       .grind [iS,Vf]
       grind
      |false =>
       refine bj g [(103,W),(115,ae)] Z ?_ (I.br Z Z ?_)
       .simp only[aA,b8,bZ,t,p,cd,bu,aX,aW];and_intros<;>omega
       have e:d5=d4:=by grind[Jx]
       exact h () az Z ay Z DK
     refine bj g [(103,ae)] Z c9 (I.br Z Z ?_);have e:d5=d4:=by grind[Jx]
     exact h () az Z ay Z DK
    rintro⟨⟩ x;refine cY g Z DD (I.aQ (s,i2,d5) Z c9 ay az ?_);grind
   rw[bc AK]at f;refine bj g [(98,ae)] Z ?_ (I.aQ (s,i2,d3) Z ?_ ?_ ?_ ?_)
   .simp only[aA,cd,dm,aX,aW];and_intros<;>omega
   .exact c9
   .simp
   .grind
   grind
 rintro⟨⟩ G;refine cY g Z an (I.dt [0] Z ?_ Z Z Z kK);simp[G]
end
section
open Go.Sort (swp pdq rd Rd Below SWO insertionSort heapSort breakPatterns choosePivot reverseRange partialInsertionSort partition partitionEqual Hint ltInt PermIn SortedIn)
variable {X:Cx ag}
abbrev pqF(n a b c:Nat)(wb wp:Bool):Fr:=[(0,m7 n),(1,dI a),(2,dI b),(3,dI c),(8,dB wb),(9,dB wp)]
def EE{h:Hint}:xK h=2↔h=.decreasing:=by cases h<;>simp[xK]
def PX{h:Hint}:xK h=1↔h=.increasing:=by cases h<;>simp[xK]
structure PqS where
 a:Nat
 b:Nat
 lim:Nat
 wb:Bool
 wp:Bool
 d:Array Int
def YD(n:Nat)(d:Array Int){a:Nat}(e:d.size=n)(c:b<=n)(f:a<=n)(h:n<=4000000){r:Array Int}(g:r=insertionSort ltInt d a b):Ev X 157 [m7 n,dI a,dI b] [bI n d] (.gI []) [bI n r]:=by grind[adk]
def Vg(n:Nat)(d:Array Int){a:Nat}(f:d.size=n)(c:a<=b)(h:1<=b-a)(e:b<=n)(i:n<=4000000){r:Array Int}(g:r=heapSort ltInt d a b):Ev X 158 [m7 n,dI a,dI b] [bI n d] (.gI []) [bI n r]:=by grind[YE]
def adl(n:Nat)(E:n<=4000000):∀(m:Nat)(d:Array Int)(a b lim:Nat),b-a<=m->d.size=n->a<=b->b<=n->lim<=100->Below ltInt a b d ->
  ∀{x y z:Int},x=a->y=b->z=lim->∀{R:Array Int},R=pdq ltInt d a b lim W W->Ev X 102 [m7 n,dI x,dI y,dI z] [bI n d] (.gI []) [bI n R]:=by
 have i:b5 X [(163,zm)]:=.cons CF .nil;have D:SWO ltInt:=Go.Sort.swo_ltInt;have hpi:=Go.Sort.partialInsertionSort_holds (lt:=ltInt);have hpt:=Go.Sort.partition_holds ltInt;have hpe:=Go.Sort.partitionEqual_holds ltInt;have aa:=Go.Sort.reverseRange_holds (α:=Int);have M:=Go.Sort.pdq_sorts ltInt;intro m;induction m using Nat.strongRecOn with
 |_ m ih =>
 intro d a b lim hm hd hab hb hl hB x y z hx hy hz R hR;subst hx hy hz;refine Ev.bQ Tryz.func102 rfl λhf=>?_;refine cY i aK an (I.cm 1 (λs:PqS=>s.d.size=n/\s.a<=s.b/\s.b<=n/\s.lim<=100/\s.b-s.a<=b-a/\Below ltInt s.a s.b s.d/\pdq ltInt s.d s.a s.b s.lim s.wb s.wp=R) (λs=>pqF n s.a s.b s.lim s.wb s.wp) (λs=>[bI n s.d]) (λs=>s.b-s.a) ⟨a,b,lim,W,W,d⟩ aK ay aK ay aK ⟨hd,hab,hb,hl,bm _,hB,hR.symm⟩ ?_);clear hf hB hd hR;rintro⟨f,h,t,wb,wp,d1⟩ ⟨Q,w,j,Z,hm1,hB,k⟩;simp only at Q w j Z hm1 hB k;by_cases A:h-f<=12
 .rw[Go.Sort.pdq_small A]at k;refine bj i [(23,W)] aK ?_ ?_
  .simp only[aA,cd,bu];and_intros<;>omega
  refine I.cQ (YD n d1 (a:=f) (b:=h) Q j aq E k.symm) [0] aK (cY i aK an (I.gp (cM.mk [0] aK an aK aK aK kK)))
 by_cases S:t=0
 .rw[Go.Sort.pdq_heap A S]at k;refine bj i [(23,ae),(29,W)] aK ?_ ?_
  .simp only[aA,cd,dm,fR];and_intros<;>omega
  refine I.cQ (Vg n d1 (a:=f) (b:=h) Q w aq j E k.symm) [0] aK (cY i aK an (I.gp (cM.mk [0] aK an aK aK aK kK)))
 have l:f<h:=aq;obtain⟨f1,f2,f3,f4,f5,ak,ab,f8⟩:=Go.Sort.rd_facts (limit:=t) (wb:=wb) (wp:=wp) D hpi aa l az hB;have fl:=Go.Sort.rd_lim_le (lt:=ltInt) (d:=d1) (a:=f) (b:=h) (limit:=t) (wb:=wb) (wp:=wp);have L:=Go.Sort.rd_dec (lt:=ltInt) (d:=d1) (a:=f) (b:=h) (limit:=t) (wb:=wb) (wp:=wp);have T:=Go.Sort.rd_not (lt:=ltInt) (d:=d1) (a:=f) (b:=h) (limit:=t) (wb:=wb) (wp:=wp);have F:=Go.Sort.rd_pi_yes (lt:=ltInt) (d:=d1) (a:=f) (b:=h) (limit:=t) (wb:=wb) (wp:=wp);have fno:=Go.Sort.rd_pi_no (lt:=ltInt) (d:=d1) (a:=f) (b:=h) (limit:=t) (wb:=wb) (wp:=wp);have fc:=Go.Sort.rd_c (lt:=ltInt) (d:=d1) (a:=f) (b:=h) (limit:=t) (wb:=wb) (wp:=wp);have Y:wb=ae->(rd ltInt d1 f h t wb wp).d1=breakPatterns d1 f h/\(rd ltInt d1 f h t wb wp).lim=t-1:=by grind[Go.Sort.rd_false]
 have fd2:wb=W->(rd ltInt d1 f h t wb wp).d1=d1/\(rd ltInt d1 f h t wb wp).lim=t:=by grind[Go.Sort.rd_true]
 have C:=Go.Sort.pdq_done (lt:=ltInt) (d:=d1) (wb:=wb) (wp:=wp) A S;have geq:=Go.Sort.pdq_eq (lt:=ltInt) (d:=d1) (wb:=wb) (wp:=wp) A S;have B:=Go.Sort.pdq_left (lt:=ltInt) (d:=d1) (wb:=wb) (wp:=wp) A S;have v:=Go.Sort.pdq_right (lt:=ltInt) (d:=d1) (wb:=wb) (wp:=wp) A S;rw[Q]at f1 f4 ab;rw[k]at C geq B v;generalize rd ltInt d1 f h t wb wp=r at *;apply I.tG (pqF n f h r.lim wb wp++[(10,dI ((h-f:Nat):Int))]) [bI n r.d1]
 .intro gf;cases wb with
  |false =>
   obtain⟨H,AK⟩:=Y rfl;refine bj i [(23,ae),(29,ae)] aK ?_ ?_
   .simp only[aA,cd,dm,eC,dO];and_intros<;>omega
   refine I.cQ (Vh n d1 f h Q w j E) [0] aK ?_;rw[<-H];refine bj i [(1000010,W)] aK ?_ ?_
   .simp only[aA,cd];and_intros<;>omega
   exact gf _ _ aK (by simp only[aA.eu,aA,AK,aX,aW];and_intros<;>omega)
  |true =>
   obtain⟨H,AK⟩:=fd2 rfl;subst H;refine bj i [(23,ae),(29,ae),(1000010,W)] aK ?_ ?_
   .simp only[aA,cd,dm,eC,dO];and_intros<;>omega
   exact gf _ _ aK c9
 refine cY i aK an (I.cQ (PY n r.d1 f h w j aq E) [0] aK ?_);rw[<-fc];apply I.tG (pqF n f h r.lim wb wp++[(10,dI ((h-f:Nat):Int)),(11,dI r.pivot),(12,dI (xK r.hint))]) [bI n r.d2]
 .intro gf;by_cases G:r.c.2=.decreasing
  .obtain⟨H,AK,e3⟩:=L G;refine bj i [(50,W)] aK ?_ ?_
   .simp only[aA,fR,EE];omega
   refine I.cQ (adm n r.d1 f h f1 aq aq j E) [0] aK ?_;rw[<-H];refine bj i [(1000015,W)] aK ?_ ?_
   .simp only[aA,cd];and_intros<;>omega
   exact gf _ _ aK (by simp only[aA.eu,aA,AK,e3,xK,aX,aW];omega)
  obtain⟨H,AK,e3⟩:=T G;rw[<-H];refine bj i [(50,ae),(1000015,W)] aK ?_ ?_
  .simp only[aA,eC,dO,EE];omega
  exact gf _ _ aK (by simp only[aA.eu,aA,AK,e3,aX,aW])
 by_cases p:r.pi.2=W
 ·
  have q:(wb&&wp&&decide (r.hint=.increasing))=W:=az;have e:=F q;simp only[cu,bu]at q;obtain⟨⟨rfl,rfl⟩,N⟩:=q;refine bj i [(67,W)] aK ek (I.cQ (CH n r.d2 f h f4 l j E) [0] aK ?_);rw[<-e,p,<-C p];refine cY i aK an (I.gp (cM.mk [0] aK an aK aK aK kK))
 rw[pL]at p;apply I.tG (pqF n f h r.lim wb wp++[(10,dI ((h-f:Nat):Int)),(11,dI r.pivot)]) [bI n r.pi.1]
 .intro gf;cases o:(wb&&wp&&decide (r.hint=.increasing))with
  |true =>
   have e:=F o;simp only[cu,bu]at o;obtain⟨⟨rfl,rfl⟩,N⟩:=o;refine bj i [(67,W)] aK ek (I.cQ (CH n r.d2 f h f4 l j E) [0] aK ?_);rw[<-e,p];exact bj i [(1000017,W)] aK an (gf _ _ aK ay)
  |false =>
   have e:r.d2=r.pi.1:=az;rw[e];cases wb with
   |false =>
    exact bj i [(1000017,W)] aK an (gf _ _ aK ay)
   |true =>
    cases wp with
    |false =>
     exact bj i [(1000017,W)] aK an (gf _ _ aK ay)
    |true =>
     refine bj i [(67,ae),(1000017,W)] aK ?_ ?_
     .simp only[aA,eC,dO,PX];grind
     exact gf _ _ aK ay
 have ep:((f:Int)-1).toNat=f-1:=aq;cases o:(decide (f>0)&&!ltInt r.pi.1[f-1]! r.pi.1[r.pivot]!)with
 |true =>
  have u:=o;simp only[cu,bu,iM]at u;obtain⟨K,q2,J,q4,_⟩:=Go.Sort.round_eq (mid:=(partitionEqual ltInt r.pi.1 f h r.pivot).1) (d4:=(partitionEqual ltInt r.pi.1 f h r.pivot).2) D hpe u.1 ak.1 ak.2 az f8 u.2 rfl;have g:=geq p o ⟨K,q2⟩;refine bj i [(74,W),(85,ae)] aK ?_ ?_
  .simp only[aA,b8,bZ,ep,u.2,cd,bu,aX,aW];and_intros<;>omega
  refine I.cQ (PZ n r.pi.1 f h r.pivot ab l j aq E) [0] aK (cY i aK an (I.aQ ⟨(partitionEqual ltInt r.pi.1 f h r.pivot).1,h,r.lim,wb,wp,(partitionEqual ltInt r.pi.1 f h r.pivot).2⟩ aK ay ay az ?_));grind
 |false =>
  obtain⟨K,q2,J,q4,q5,q6,q7⟩:=Go.Sort.round_part (mid:=(partition ltInt r.pi.1 f h r.pivot).1) (ap:=(partition ltInt r.pi.1 f h r.pivot).2.1) (d4:=(partition ltInt r.pi.1 f h r.pivot).2.2) D hpt ak.1 ak.2 az f8 rfl;apply I.tG (pqF n f h r.lim wb wp++[(10,dI ((h-f:Nat):Int)),(11,dI r.pivot)]) [bI n r.pi.1]
  .intro gf;by_cases ha0:0<f
   .have xZ:ltInt r.pi.1[f-1]! r.pi.1[r.pivot]! = W:=az;refine bj i [(74,W),(85,W),(1000020,W)] aK ?_ ?_
    .simp only[aA,b8,bZ,ep,xZ,cd,bu,aX,aW];and_intros<;>omega
    exact gf _ _ aK ay
   exact bj i [(74,ae),(1000020,W)] aK c9 (gf _ _ aK ay)
  refine cY i aK an (I.cQ (YF n r.pi.1 f h r.pivot ab l j aq E) [0] aK ?_);have gl:=B p o ⟨K,q2⟩;have gr:=v p o ⟨K,q2⟩;generalize partition ltInt r.pi.1 f h r.pivot=P at *;rw[ab]at J;by_cases U:P.1-f<h-P.1
  .have g:=gl U;obtain⟨w1,w2⟩:=M D P.2.2 f P.1 r.lim W W K az q4;obtain⟨w3,_⟩:=q6 _ w1 w2;refine bj i [(113,W)] aK Kg (I.cQ (ih (P.1-f) aq P.2.2 f P.1 r.lim (bm _) J K aq aq q4 aK aK aK aK) [0] aK (cY i aK Zo (I.aQ ⟨P.1+1,h,r.lim,decide (P.1-f≥(h-f) / 8),P.2.1,pdq ltInt P.2.2 f P.1 r.lim W W⟩ aK c9 ay ?_ ?_)))
   .exact⟨by simp only;rw[w1.1,J],by grind,j,by grind,by grind,w3,g.symm⟩
   grind
  have g:=gr U;obtain⟨w1,w2⟩:=M D P.2.2 (P.1+1) h r.lim W W aq az q5;obtain⟨w3,_⟩:=q7 _ w1 w2;refine bj i [(113,ae)] aK ?_ ?_
  .simp only[aA,cd,dm,aX,aW];and_intros<;>omega
  refine I.cQ (ih (h-(P.1+1)) aq P.2.2 (P.1+1) h r.lim (bm _) J aq j aq q5 (x:=(P.1:Int)+1) aq aK aK aK) [0] aK (cY i aK ?_ (I.aQ ⟨f,P.1,r.lim,decide (h-P.1≥(h-f) / 8),P.2.1,pdq ltInt P.2.2 (P.1+1) h r.lim W W⟩ aK ?_ ?_ ?_ ?_))
  .trivial
  .exact c9
  .simp
  .exact⟨by simp only;rw[w1.1,J],by grind,by grind,by grind,by grind,w3,g.symm⟩
  grind
end
section
open Go.Proofs Go.Conc Go.Conc.Lib
open Go.ConcN (WgLive PayAt Has RW AtR0)
open Go.ConcR (KK WgAt stA smA rd wr mk Payload DC0)
instance Al:Payload:=⟨240⟩
def pf(f:Int):eP:=λargs U=>match args,U with
 |[.e (.bX (.c (.int .i64 k))),g,.e (.bX (.c (.int .i64 n)))],[]=>match mf 2 g with
  |none=>af
  |some (d,b)=>O (dFe (dx k (cP.cz d b) n),[],[cP.pd d b,k=f])
 |_,_=>af
noncomputable def aaj:Code:=(Tryz.f170.body).getD .skip
noncomputable def TH:Array aJ:=match aaj with|.seq (.region _ o _) _=>o|_=>#[]
noncomputable def TJ:Array aJ:=match aaj with|.seq _ (.region _ o _)=>o|_=>#[]
def TK:Tryz.f170.body=O (.seq (.region 0 TH ae) (.region 1 TJ W)):=bw
def oW(d:Option Nat)(op:Op)(ty:av)(b:Array Edge):aJ:={dst:=d,op:=op,type:=ty,pos:= "l12_snap.go:82",after:=b,guard:=af}
def zD:List aJ:=[oW (O 6) (.load 230 (.tmp 4)) 230 #[],oW (O 7) (.load 3 (.tmp 5)) 3 #[],oW (O 8) (.load 3 (.tmp 1)) 3 #[],oW (O 9) (.load 23 (.tmp 2)) 23 #[],oW (O 10) (.load 3 (.tmp 3)) 3 #[],
 oW (O 11) (.call {callee:=.value (.func 172),args:=#[.tmp 8,.tmp 9,.tmp 10],argTypes:=#[3,23,3]}) 240 #[⟨2,.data⟩,⟨3,.data⟩,⟨4,.data⟩],
 oW (O 12) (.indexAddr 230 (.tmp 6) (.tmp 7)) 0 #[⟨0,.data⟩,⟨1,.data⟩,⟨0,.phase⟩,⟨1,.phase⟩,⟨2,.phase⟩,⟨3,.phase⟩,⟨4,.phase⟩,⟨5,.phase⟩],
 oW af (.store 240 (.tmp 12) (.tmp 11)) 0 #[⟨6,.data⟩,⟨5,.data⟩,⟨5,.chain⟩,⟨0,.phase⟩,⟨1,.phase⟩,⟨2,.phase⟩,⟨3,.phase⟩,⟨4,.phase⟩,⟨5,.phase⟩]]
def XR:TJ=zD.toArray:=bw
def se(h:zD[i]?=O o):i<8:=(cO.1 h).1
section
variable (k:Int)(ps:List bz)(a:Int)(n x C:Nat)
def aft(b:ah):Fr:=[(0,jA b),(1,b7 (.rp [.int .i64 k])),(2,b7 (.rp [.sl ae 2 (V ps) (cP.fn ps)])),(3,b7 (.rp [.int .i64 a])),(4,b7 (.rp [.val (.slice (O ⟨C,0,af⟩) n n)])),(5,b7 (.rp [.int .i64 x]))]
def xW:Nat->D
 |0=>jA (.slice (O ⟨C,0,af⟩) n n)
 |1=>dI x
 |2=>dI k
 |3=>cP.sl ps
 |4=>dI a
 |5=>dFe (dx k ps a)
 |6=>jA (.pointer (O ⟨C,x*2,af⟩))
 |_=>.any
def Ls:Nat->Option Nat
 |6=>O 0|7=>O 1|8=>O 2|9=>O 3|10=>O 4|11=>O 5|12=>O 6|_=>af
def frW(b:ah):Nat->Fr
 |5=>[(8,dI k),(9,cP.sl ps),(10,dI a)]
 |6=>[(6,jA (.slice (O ⟨C,0,af⟩) n n)),(7,dI x)]
 |_=>aft k ps a n x C b
end
def XS{X:Cx ag}{n x C:Nat}(g:x<n):OA X 13 zD (oW (O 12) (.indexAddr 230 (.tmp 6) (.tmp 7)) 0 #[⟨0,.data⟩,⟨1,.data⟩,⟨0,.phase⟩,⟨1,.phase⟩,⟨2,.phase⟩,⟨3,.phase⟩,⟨4,.phase⟩,⟨5,.phase⟩]) [(6,jA (.slice (O ⟨C,0,af⟩) n n)),(7,dI x)] [] (jA (.pointer (O ⟨C,x*2,af⟩))) []:=by
 refine .nB (λ_ _ _ _=>eE Z) (bU.dw λs j m h=>?_);have b:=h (.tmp 6);have c:=h (.tmp 7);have l:ck [(6,D.e (.bX (.v (.slice (O ⟨C,0,af⟩) n n)))),(7,dI x)] (.tmp 6)=jA (.slice (O ⟨C,0,af⟩) n n):=rfl;have i:ck [(6,D.e (.bX (.v (.slice (O ⟨C,0,af⟩) n n)))),(7,dI x)] (.tmp 7)=dI x:=rfl;rw[l]at b;rw[i]at c;have b:=Rd.fM b;have c:=gG c;generalize d:j (.tmp 7)=vy at c;cases c;have f:=(bO 230 XT Z).run_underlying (w:=s.w);refine⟨.pointer (O ⟨C,x*2,af⟩),?_,Rd.val Z,?_⟩
 .simp[ar,oW,b,d,Instr.indexAt,asIntOf,f,XT,(bO 240 Iy Z).b6,Iy,eg,g]
 simp[ar,oW,b,d,Instr.indexAt,asIntOf,f,XT,eg,g]
def afu{X:Cx ag}{k:Int}(l:fp X 172 (pf k))(ps:List bz)(a:Int)(n x C:Nat)(p:x<n)(g:ah):
  Ti X 13 zD.toArray (aft k ps a n x C g) [] (xW k ps a n x C) (frW k ps a n x C g) Ls 7:=by
 have q:b5 X [(172,pf k)]:=b5.cons l b5.nil;have b:∀(i:Nat) (o:aJ) (J:Fr) (d:D) (obs:List Prop),zD[i]?=O o->A5 tt [(172,pf k)] [] zD J [] o=O (d,af,obs)->aA obs->OA X 13 zD o J [] d [] :=
  λi o J d obs _ h ho=>gK bO q h ho
 refine⟨?_,?_,?_,?_,?_,?_,by decide⟩
 .intro i o ho e f _;simp only[j9]at ho;have hi:=se ho
  match i,hi with
  |0,_|1,_|2,_|3,_|4,_|5,_|6,_|7,_ =>
   cases ho;simp[oW]at f;try (rcases f with rfl|rfl|rfl|rfl|rfl|rfl|rfl|rfl|rfl<;>decide)
   try (rcases f with rfl|rfl|rfl<;>decide)
 .intro i o d ho hd;simp only[j9]at ho;have hi:=se ho
  match i,hi with
  |0,_|1,_|2,_|3,_|4,_|5,_|6,_|7,_ =>
   cases ho;cases hd;try exact⟨rfl,by decide⟩
 .intro d i h;unfold Ls at h;split at h<;>cases h<;>exact⟨_,rfl,rfl⟩
 .intro i o ho Hg;simp only[j9]at ho;have hi:=se ho
  match i,hi with
  |0,_=>cases ho;exact b 0 _ _ _ _ Z Z an
  |1,_=>cases ho;exact b 1 _ _ _ _ Z Z an
  |2,_=>cases ho;exact b 2 _ _ _ _ Z Z an
  |3,_=>cases ho;exact b 3 _ _ _ _ Z Z an
  |4,_=>cases ho;exact b 4 _ _ _ _ Z Z an
  |5,_ =>
   cases ho;have:=b 5 _ (frW k ps a n x C g 5) _ _ Z Z (by simp[cP.aE]);rw[cP.aw]at this;exact this
  |6,_=>cases ho;exact XS p
  |7,_=>grind
 .intro i o ho Hg t U s v c;simp only[j9]at ho;have hi:=se ho
  match i,hi with
  |0,_|1,_|2,_|3,_|4,_ =>
   match t with
   |0|1|2|3|4|5=>exact c
   |t+6=>trivial
  |5,_ =>
   cases ho
   match t with
   |8=>exact(show ey U s v (xW k ps a n x C 2)from by simpa[Ls,oW,eG,Region.binds]using c)
   |9=>exact(show ey U s v (xW k ps a n x C 3)from by simpa[Ls,oW,eG,Region.binds]using c)
   |10=>exact(show ey U s v (xW k ps a n x C 4)from by simpa[Ls,oW,eG,Region.binds]using c)
   |0|1|2|3|4|5|6|7=>trivial
   |t+11=>trivial
  |6,_ =>
   cases ho
   match t with
   |6=>exact(show ey U s v (xW k ps a n x C 0)from by simpa[Ls,oW,eG,Region.binds]using c)
   |7=>exact(show ey U s v (xW k ps a n x C 1)from by simpa[Ls,oW,eG,Region.binds]using c)
   |0|1|2|3|4|5=>trivial
   |t+8=>trivial
  |7,_=>grind
 intro o ho j m Hg;simp only[j9]at ho;cases ho
 match j,m with
 |0,_=>exact⟨⟨0,.phase⟩,by simp[oW],rfl,rfl⟩
 |1,_=>exact⟨⟨1,.phase⟩,by simp[oW],rfl,rfl⟩
 |2,_=>exact⟨⟨2,.phase⟩,by simp[oW],rfl,rfl⟩
 |3,_=>exact⟨⟨3,.phase⟩,by simp[oW],rfl,rfl⟩
 |4,_=>exact⟨⟨4,.phase⟩,by simp[oW],rfl,rfl⟩
 |5,_=>exact⟨⟨5,.phase⟩,by simp[oW],rfl,rfl⟩
 |6,_=>exact⟨⟨6,.data⟩,by simp[oW],rfl,rfl⟩
 |7,_=>grind
noncomputable def zF:bd:={(default:bd)with fn:=Tryz.prog.funcs.size,defers:=[],mode:=.panicking [goexitEntry]}
def BS(vs:Array ah):Deferred:={target:=.fn (.func 170) vs,args:=#[]}
def Pb(v0 v1 v2 v3 v4 v5:ah)(w:aB):aU ag ae (born ag (BS #[v0,v1,v2,v3,v4,v5])) w =
  .go (G ((baseD 170).at ⟨#[v0,v1,v2,v3,v4,v5,ai,ai,ai,ai,ai,ai,ai],[]⟩ [.code (.seq (.region 0 TH ae) (.region 1 TJ W))]) [zF]) w #[]:=by
 have d:=TK;have c:Tryz.f170.ntmps=13:=bw;have b:¬Tryz.f170.name= "runtime.NumGoroutine":=by have:(Tryz.f170.name== "runtime.NumGoroutine")=ae:=bw;grind
 simp[born,BS,aU,unwind,callDeferred,invoke,callFunc,Tryz.func170,d,c,b,seen,GStep.after,G,Frame.enter,Frame.at,baseD,zF]
end
section
variable {X:Cx ag}
abbrev pk(ps:List bz)(i:Nat):bz:=ps.getD i (0,[])
def Tz{n:Int}{ps:List bz}{r:Bs}(hi:i<V ps)(h:eJ k (pk ps i) n=O r)(a:∀j,j<i->eJ k (pk ps j) n=af):dx k ps n=O r:=by
 unfold dx;induction ps generalizing i with
 |nil=>grind
 |cons p ps ih =>
  cases i with
  |zero=>grind
  |succ i =>
   have b:=a 0 aq;grind
def Lo{n:Int}{ps:List bz}(a:∀j,j<V ps->eJ k (pk ps j) n=af):dx k ps n=af:=by unfold dx;grind[List.getElem_of_mem]
theorem vv.ofT{P:aR}{J:Fr}{U:List bq}{T:List (Nat×TI)}(hT:dA P T){fn:Func}{c:Nat}{res:D}{U':List bq}(ks:List Nat){ps:List Prop}(h:Ow T fn.results.toList ks J res=O ps)(f:aA ps)(g:l6 ks U=O U')(a:mI U'=W)(i:fa ks=W)(hk:∀j,j<c->ks[j]?=O j):
  vv P fn c res U' .ret J U:=by
 refine⟨.inl Z,ks,?_⟩;unfold Ow at h;split at h
 .rename_i ds hds;split at h
  .rename_i d e;split at h
   .rename_i b;exact⟨d,ps,Fq.ofT hT hds e,h,f,b,g,a,i,hk⟩
   grind
  grind
 grind
def pe{a:List Nat}:∀j,j<0->a[j]?=O j:=λ_ h=>absurd h (jO _)
def TB(d:fp X 150 rj)(k:Int)(ps:List bz)(n:Int)(hk:cN k=W):Ev X 172 [dI k,cP.sl ps,dI n] [] (dFe (dx k ps n)) []:=by
 refine Ev.tu Tryz.func172 rfl rfl rfl λg=>?_;have f:=g.sl 1 Z;have b:b5 X [(217,Kc aI (Iq fO) aI (λk p n=>Gf (eJ k p n)) λk _ _=>[cN k=W])]:=.cons (acj d) .nil;refine cp b Z an (I.cm 1 (λi=>i<=V ps/\∀j,j<i->eJ k (pk ps j) n=af) (λi:Nat=>[(0,dI k),(2,dI n),(6,cE 0 0),(11,cP.sl ps),(12,dI (V ps)),(13,dI i)]) (λ_=>[.cells 240 [.c (.du []),.c (.bool ae)]]) (λi=>V ps-i) 0 Z ay Z ay Z ⟨by omega,by omega⟩ ?_);rintro i ⟨hi,a⟩;by_cases h:i<V ps
 .cases l:eJ k (pk ps i) n with
  |some r =>
   refine aY b [(14,W),(24,W)] Z ?_ (I.freeze 6 0 Z Z Z (I.gp ?_))
   .simp only[aA,bZ,fO.aw];refine⟨?_,fO.aE _,hk,by omega,by omega,fQ aq⟩;grind
   refine vv.ofT bO [] Z ?_ Z Z Z pe;rw[Tz h l a];simp only[bZ,fO.aw];simp_all
  |none =>
   refine aY b [(14,W),(24,ae)] Z ?_ (I.aQ (i+1) Z ?_ ?_ ?_ ?_)
   .simp only[aA,bZ,fO.aw];refine⟨by exact ek,?_,fO.aE _,hk,by omega,by omega,fQ aq⟩;grind
   .simp
   .simp
   .grind
   grind
 refine aY b [(14,ae)] Z c6 (I.br Z Z ?_);refine cp b Z an (I.freeze 6 0 Z Z Z ?_);refine I.tq bO [] Z ?_ Z Z Z pe;rw[Lo λj m=>a j aq];simp
def ack(a:fp X 150 rj)(hk:cN k=W):fp X 172 (pf k):=by
 intro args U res U' obs h ho;unfold pf at h;split at h
 .rename_i k1 da n;split at h
  .cases h
  rename_i d e b;cases h;obtain⟨c,rfl⟩:=ho;exact(TB a _ _ n hk).args λs vs=>cU.imp (λ_ r=>r) (cU.imp (λ_ r=>cP.k8 b c r) (cU.imp (λ_ r=>r) (λ_ r=>r))) vs
 grind
def O1:eP:=λargs U=>match args,U with
 |[.e (.bX (.c (.du [46]))),.e (.bX (.c (.int .i64 c)))],[]=>O (dS (List.replicate c.toNat 46),[],[0<=c/\c<=3])
 |_,_=>af
def t195:fp X 195 (lW aI (λn=>dI (dW n.toNat)) λn=>[0<=n/\n<=4000000]):=.rl λn h=>by
 have a:0<=n/\n<=4000000:=h;obtain⟨m,rfl⟩:∃m:Nat,n=m:=⟨n.toNat,by omega⟩
 exact Im (X:=X) m aq
def TC(b:1<=n)(a:n<=8):n<=dW n/\dW n<=n+3:=Q3
def TD(b:fp X 194 O1)(p:Bs):Ev X 150 [dS p] [] (dS (iv p)) []:=by
 refine Ev.bQ Tryz.func150 rfl λf=>?_;have d:b5 X [(193,lW aS (λs=>dB (bH s)) λ_=>[]),(195,lW aI (λn=>dI (dW n.toNat)) λn=>[0<=n/\n<=4000000]),(194,O1)]:=.cons acb (.cons t195 (.cons b .nil));by_cases a:bH p=W
 .have c:=a;simp only[bH,cu,bu]at c;have e:=TC c.1.1 c.1.2;refine aY d [(5,ae)] Z ?_ (I.bE Z ?_)
  .simp[a,cd];omega
  simp[iv,a]
 refine aY d [(5,W)] Z yX (I.bE Z ?_);simp[iv,a]
def afj(a:fp X 194 O1):fp X 150 rj:=.rl λp _=>TD a p
def XL:Ev X 194 [dS [46],dI 0] [] (dS []) []:=by refine Ev.bQ Tryz.func194 rfl λa=>?_;refine ba [(12,W)] Z ?_ (I.bE Z);simp
def XM:Ev X 194 [dS [46],dI 1] [] (dS [46]) []:=by refine Ev.bQ Tryz.func194 rfl λa=>?_;refine ba [(12,ae),(14,W)] Z ?_ (I.bE Z);simp
def afi(a:Ev X 194 [dS [46],dI 2] [] (dS [46,46]) [])(b:Ev X 194 [dS [46],dI 3] [] (dS [46,46,46]) []):fp X 194 O1:=by
 intro args U res U' obs h ho;unfold O1 at h;split at h
 .rename_i c;cases h;have:c=0∨c=1∨c=2∨c=3:=KE;rcases this with rfl|rfl|rfl|rfl
  .exact XL
  .exact XM
  .exact a
  grind
 grind
def ace(a b:List Bs):Ev X 175 [cS.sl a,cS.sl b] [] (dB (a==b)) []:=by
 refine Ev.bQ Tryz.func175 rfl λk=>?_;have d:=k.sl 0 Z;by_cases c:V a=V b
 .refine ba [(10,ae)] Z (by simp[c]) (I.lQ (λi=>i<=V a/\∀j,j<i->a.getD j []=b.getD j []) (λi:Nat=>[(0,cS.sl a),(1,cS.sl b),(12,dI (V a)),(13,dI i)]) (λ_=>[]) (λi=>V a-i) 0 Z ay Z an ⟨by omega,by omega⟩ ?_);rintro i ⟨hi,g⟩;by_cases h:i<V a
  .by_cases f:a.getD i []=b.getD i []
   .refine ba [(14,W),(24,ae)] Z ?_ (I.iD (i+1) Z ?_ Z an ?_ ?_)
    .simp only[aA,bZ];have e:(a.getD i cS.cy==b.getD i cS.cy)=W:=fR.2 f;exact⟨by exact ek,by grind,by omega,by omega,by omega,by omega,fQ aq⟩
    .simp
    .grind
    omega
   refine ba [(14,W),(24,W)] Z ?_ (I.j5 (cM.zero Z ?_))
   .simp only[aA,bZ];grind
   have:(a==b)=ae:=eC.2 az;simp[this]
  refine ba [(14,ae)] Z c6 (I.gE Z Z ?_);refine bt Z an (I.bE Z ?_);have:a=b:=uh c λj f l=>by grind
  simp[this]
 refine ba [(10,W)] Z c6 (I.bE Z ?_);have:(a==b)=ae:=eC.2 az;simp[this]
end
def BK(h:o.op=.binOp op t x y ty){e:av}(A:P.underlying t=O (.pointer e)){b c:Bool}(r:∀s u v,aH U s->ey U s u (η x)->ey U s v (η y)->∃p q,u=.pointer p/\v=.pointer q/\(p==q)=b/\(eqGuard op t x y u v).run P s.w=.ok () s.w/\(∀es,(eqGuard op t x y u v).events P s.w es=es) /\
   (Op.equal t u v).run P s.w=.ok b s.w/\∀es,(Op.equal t u v).events P s.w es=es)(k:lx op b=O c):bU P o η U (b7 (.bool c)) U:=by
 refine .dw λs C z n=>?_;obtain⟨p,q,g,f,B,j,m,i,l⟩:=r s _ _ z (n x) (n y);rw[g,f]at j i;have a:=m #[];have d:=l #[];rw[g,f]at a d;cases op<;>simp only[lx,reduceCtorEq,eF]at k
 .subst k;exact⟨.bool b,by simp[ar,h,g,f,j,binOp,i],Rd.bool,by simp[ar,h,g,f,j,a,binOp,i,d]⟩
 subst k;exact⟨.bool (!b),by simp[ar,h,g,f,j,binOp,i],Rd.bool,by simp[ar,h,g,f,j,a,binOp,i,d]⟩
def yk(h:o.op=.binOp op t x (.const (.pointer af)) ty){e:av}(f:P.underlying t=O (.pointer e)){c:Bool}(k:η x=b7 .ki)(i:η (.const (.pointer af))=b7 .ki)(j:lx op W=O c):bU P o η U (b7 (.bool c)) U:=by
 refine BK h f (b:=W) ?_ j;intro s u v _ a d;rw[k]at a;rw[i]at d;replace a:=gG a;replace d:=gG d;cases a;cases d;have l:(Op.equal t (.pointer af) (.pointer af)).run P s.w=.ok W s.w:=QJ;have g:∀es,(Op.equal t (.pointer af) (.pointer af)).events P s.w es=es:=λes=>by show(bx (9999+1) t _ _).events P s.w es=es;unfold bx;simp[underlying,f]
 exact⟨af,af,Z,Z,Z,by cases op<;>simp[eqGuard],λes=>by cases op<;>simp[eqGuard],l,g⟩
def ab7(h:o.op=.binOp op t x (.const (.pointer af)) ty){e:av}(d:P.underlying t=O (.pointer e)){c:Bool}(k:η x=cE l off)(i:η (.const (.pointer af))=b7 .ki)(j:lx op ae=O c):bU P o η U (b7 (.bool c)) U:=by
 refine BK h d (b:=ae) ?_ j;intro s u v _ g a;rw[k]at g;rw[i]at a;replace a:=gG a;cases a;obtain⟨_,L,b,_,_,rfl⟩:=(g:jh U s u (.ptr l off));have m:(Op.equal t (.pointer (O ⟨b,off,af⟩)) (.pointer af)).run P s.w=.ok ae s.w:=by show(bx (9999+1) t _ _).run P s.w=_;unfold bx;simp[underlying,d]
 have f:∀es,(Op.equal t (.pointer (O ⟨b,off,af⟩)) (.pointer af)).events P s.w es=es:=λes=>by show(bx (9999+1) t _ _).events P s.w es=es;unfold bx;simp[underlying,d]
 exact⟨_,af,Z,Z,Z,by cases op<;>simp[eqGuard],λes=>by cases op<;>simp[eqGuard],m,f⟩
def XA(h:o.op=.binOp op t x y ty){e:av}(f:P.underlying t=O (.pointer e))(q:n≠0)(p:∀w,(sizeOf e).run P w=.ok n w)(i:∀w es,(sizeOf e).events P w es=es){c:Bool}(A:η x=cE l off)(r:η y=cE l off)(z:lx op W=O c):bU P o η U (b7 (.bool c)) U:=by
 refine BK h f (b:=W) ?_ z;intro s u v _ k m;rw[A]at k;rw[r]at m;obtain⟨_,L,b,B,g,rfl⟩:=(k:jh U s u (.ptr l off));obtain⟨_,D,E,d,a,rfl⟩:=(m:jh U s v (.ptr l off));rw[B]at d;cases d;rw[g]at a;cases a;have C:(Op.equal t (.pointer (O ⟨b,off,af⟩)) (.pointer (O ⟨b,off,af⟩))).run P s.w=.ok W s.w:=by show(bx (9999+1) t _ _).run P s.w=_;unfold bx;simp[underlying,f,p,q,sameAddr]
 have j:∀es,(Op.equal t (.pointer (O ⟨b,off,af⟩)) (.pointer (O ⟨b,off,af⟩))).events P s.w es=es:=λes=>by show(bx (9999+1) t _ _).events P s.w es=es;unfold bx;simp[underlying,f,p,i,q,sameAddr]
 exact⟨_,_,Z,Z,by simp,by cases op<;>simp[eqGuard],λes=>by cases op<;>simp[eqGuard],C,j⟩
def NC(h:o.op=.binOp op t x (.const (.pointer af)) ty){e:av}(f:P.underlying t=O (.pointer e)){c:Bool}{cs:List C}(k:η x=b7 (.rp cs))(i:η (.const (.pointer af))=b7 .ki)(j:lx op ae=O c):bU P o η U (b7 (.bool c)) U:=by
 refine BK h f (b:=ae) ?_ j;intro s u v _ a d;rw[k]at a;rw[i]at d;replace a:=gG a;replace d:=gG d;cases d;cases a with|rp b off =>
 have l:(Op.equal t (.pointer (O ⟨b,off,af⟩)) (.pointer af)).run P s.w=.ok ae s.w:=QJ;have g:∀es,(Op.equal t (.pointer (O ⟨b,off,af⟩)) (.pointer af)).events P s.w es=es:=λes=>by show(bx (9999+1) t _ _).events P s.w es=es;unfold bx;simp[underlying,f]
 exact⟨_,af,Z,Z,Z,by cases op<;>simp[eqGuard],λes=>by cases op<;>simp[eqGuard],l,g⟩
section
variable {X:Cx ag}
abbrev bB(a:Bool)(v1:ah)(bf:Option (Nat×Nat))(xs:Bs)(b:Nat):bq:=.cJ (BB 292 5 a v1 bf xs b)
def Ii(v1:ah)(b:dK v1=W)(bf:Option (Nat×Nat))(xs:Bs)(a:Nat):Ev X 246 [cE 0 0] [bB ae v1 bf xs a] (.gI []) [bB W v1 bf xs a]:=by refine Ev.bQ Tryz.func246 rfl λc=>?_;refine bt Z an ?_;refine I.gH (bU.aaZ bO Z Z Z Z Z) Z Z ?_;refine I.gH (yk Z Tryz.underlying290 Z Z Z) Z Z ?_;refine bt Z an ?_;refine I.gH (bU.bTo Z Z Tryz.underlying290 Tryz.underlying141 (gC Tryz.type292) (by simp[Tryz.t292]) Z) Z Z ?_;refine I.gH (bU.ael Tryz.func260 bw bw bw bw rfl rfl rfl) rfl rfl ?_;refine I.gH (bU.aek Z Z Tryz.underlying141 Tryz.underlying290 (gC Tryz.type292) (by simp[Tryz.t292]) bw Z) Z Z ?_;refine bt Z an ?_;refine I.gH (bU.Ww bO Z Z Z Z Z Z b) Z Z ?_;refine bt Z an ?_;exact cM.sX [0] Z an Z Z Z (λj d=>by grind)
def Ij(v1:ah)(bf:Option (Nat×Nat))(xs:Bs)(a:Nat):Ev X 246 [cE 0 0] [bB W v1 bf xs a] (.gI []) [bB W v1 bf xs a]:=by refine Ev.bQ Tryz.func246 rfl λb=>?_;refine bt Z an ?_;refine I.gH (bU.RJ bO Z Z Z Z Z) Z Z ?_;refine I.gH (ab7 Z Tryz.underlying290 Z Z Z) Z Z ?_;refine bt Z an ?_;refine I.gH (bU.RJ bO Z Z Z Z Z) Z Z ?_;refine bt Z an ?_;refine I.gH (XA Z Tryz.underlying290 (n:=2) ee (λw=>by simp) (λw es=>by simp) Z Z Z) Z Z ?_;refine bt Z an ?_;exact cM.sX [0] Z an Z Z Z (λj c=>by grind)
abbrev bb(a:Bool)(bf:Option (Nat×Nat))(xs:Bs)(b:Nat):bq:=bB a (tk bf (V xs)) bf xs b
def sd:∀j,j<1->([0]:List Nat)[j]?=O j:=λj a=>by grind
def Gd(a:Bool)(bf:Option (Nat×Nat))(xs:Bs)(b:Nat)(d:V xs<=9223372036854775807)(c:bf=af->xs=[]):Ev X 237 [cE 0 0] [bb a bf xs b] (dI (V xs)) [bb a bf xs b]:=by
 refine Ev.bQ Tryz.func237 rfl λf=>?_;refine bt Z an (I.gH (bU.ib bO Z Z Z Z Z) Z Z ?_);cases bf with
 |none =>
  have:=c Z;subst this;refine I.gH (bU.zx Z Z aZ Z ay) Z Z ?_;refine bt Z an (I.dt [0] Z ?_ Z Z Z sd);simp
 |some p =>
  refine I.gH (bU.zx Z Z aZ Z d) Z Z ?_;refine bt Z an (I.dt [0] Z ?_ Z Z Z sd);simp
def Ld(g cap:Nat)(xs s:Bs)(a:Nat)(f:V s<=9223372036854775807)(b:V xs+V s<=cap):Ev X 224 [cE 0 0,dS s] [bb W (O (g,cap)) xs a] (.gI [.bX (.c (.int .i64 (V s))),.bX (.c .kG)]) [bb W (O (g,cap)) (xs++s) a]:=by refine Ev.bQ Tryz.func224 rfl λd=>?_;refine bt Z an ?_;refine I.cQ (Ij (tk (O (g,cap)) (V xs)) (O (g,cap)) xs a) [0] Z ?_;refine bt Z an ?_;refine I.gH (bU.ib bO Z Z Z Z Z) Z Z ?_;refine bt Z an ?_;refine I.gH (bU.Wx (l:=0) (g:=g) (cap:=cap) (xs:=xs) Z aZ Tryz.underlying9 (gC Tryz.type5) (by simp[Tryz.t5]) Z Z Z Z b) Z Z ?_;refine bt Z an ?_;refine I.gH (bU.Ff bO Z Z Z Z Z Z Z) Z Z ?_;have e:bb W (O (g,cap)) (xs++s) a=.cJ (BB 292 5 W (tk (O (g,cap)) (V xs+V s)) (O (g,cap)) (xs++s) a):=az;rw[e];refine bt Z an (I.dt [0] Z ?_ Z Z Z sd);simp
theorem ab8:Ev X 224 [cE 0 0,dS []] [bb W af [] 0] (.gI [.bX (.c (.int .i64 0)),.bX (.c .kG)]) [bb W af [] 0]:=by refine Ev.bQ Tryz.func224 rfl λa=>?_;refine bt Z an ?_;refine I.cQ (Ij (tk af 0) af [] 0) [0] Z ?_;refine bt Z an ?_;refine I.gH (bU.ib bO Z Z Z Z Z) Z Z ?_;refine bt Z an ?_;refine I.gH (bU.RM Z aZ Tryz.underlying9 (gC Tryz.type5) Z Z) Z Z ?_;refine bt Z an ?_;refine I.gH (bU.Ff bO Z Z Z Z Z Z Z) Z Z ?_;refine bt Z an (I.dt [0] Z ?_ Z Z Z sd);simp
abbrev dp:D:=cE 0 0
abbrev Wj:D:=cE 0 1
def Le(g cap:Nat)(xs:Bs)(c:Nat)(a:V xs<=9223372036854775807)(b:cap≠0):Ev X 225 [cE 0 0] [bb W (O (g,cap)) xs c] (dS xs) [bb W (O (g,cap)) xs (V xs)]:=by
 refine Ev.bQ Tryz.func225 rfl λd=>?_;refine ba [(1000001,W)] Z an ?_;refine I.Wi gB 10 (λi=>bP i 9) (λi=>[dp,dp,Wj,jA (.slice (O ⟨g,0,af⟩) (V xs) cap),jA (.pointer (O ⟨g,0,af⟩)),dp,dp,Wj,jA (.slice (O ⟨g,0,af⟩) (V xs) cap),dI (V xs)].getD i .any) (λ(_:Unit) _=>dS xs)
  (λ_=>[bb W (O (g,cap)) xs (V xs)]) Z Z Z Z Z Z ?_ ?_ ?_ ?_
 .refine⟨.fU bO b5.nil Z,.fU bO b5.nil Z,.fU bO b5.nil Z,?_,?_,.fU bO b5.nil Z,.fU bO b5.nil Z,.fU bO b5.nil Z,?_,?_,an,an,an⟩
  .exact .gH (bU.ib (l:=0) bO Z Z Z Z Z) Z
  .exact .gH (bU.aeg Z Z b) Z
  .exact .gH (bU.ib (l:=0) bO Z Z Z Z Z) Z
  exact .gH (bU.zx Z Z aZ Z a) Z
 .intro _;refine⟨.fU bO b5.nil Z,.fU bO b5.nil Z,.fU bO b5.nil Z,?_,?_,.fU bO b5.nil Z,.fU bO b5.nil Z,.fU bO b5.nil Z,?_,?_,an,.fU bO b5.nil Z,an⟩
  .exact .gH (bU.ib (l:=0) bO Z Z Z Z Z) Z
  .exact .gH (bU.aeg Z Z b) Z
  .exact .gH (bU.ib (l:=0) bO Z Z Z Z Z) Z
  exact .gH (bU.zx Z Z aZ Z a) Z
 .exact .FU (.gH (aee (l:=0) Z Tryz.underlying314 bw Z Z Z) Z)
 intro _;refine bt Z an (I.dt [0] Z ?_ Z Z Z sd);simp
def afh(h:o.op=.binOp .add t x y ty){b:Int}(a:η x=dI 0)(e:η y=dI b)(d:cd .i64 b):bU ag o η U (dI b) U:=by have:=bU.binOp (P:=ag) (U:=U) h a e (c:=.int .i64 (0+b)) (obs:=[cd .i64 (0+b)]) Z c9;grind
def e9.aad{f:aO}{fn:Func}{args:List D}{U':ι->List bq}(d:Tryz.prog.funcs[f]?=O fn)(b:(fn.name== "runtime.NumGoroutine")=ae)(hb:fn.body=O c)(a:bP args.length fn.ntmps=W)(h:I X fn.ntmps (λe J σ1=>∃j,cM fn U.length (res j) (U' j) e J σ1) [.code c] .normal (lu 0 args) U):e9 X f args U res U' :=
 e9.intro d b hb (fY a) (I.dX h)
def XB:Ev X 225 [cE 0 0] [bb W af [] 0] (dS []) [bb W af [] 0]:=by
 refine Ev.bQ Tryz.func225 rfl λa=>?_;refine ba [(1000001,W)] Z an ?_;refine I.Wi gB 10 (λi=>bP i 9) (λi=>[dp,dp,Wj,jA (.slice af 0 0),jA (.pointer af),dp,dp,Wj,jA (.slice af 0 0),dI (0:Nat)].getD i .any) (λ(_:Unit) _=>dS [])
  (λ_=>[bb W af [] 0]) Z Z Z Z Z Z ?_ ?_ ?_ ?_
 .refine⟨.fU bO b5.nil Z,.fU bO b5.nil Z,.fU bO b5.nil Z,?_,?_,.fU bO b5.nil Z,.fU bO b5.nil Z,.fU bO b5.nil Z,?_,?_,an,an,an⟩
  .exact .gH (bU.ib (l:=0) bO Z Z Z Z Z) Z
  .exact .gH (bU.aef Z Z) Z
  .exact .gH (bU.ib (l:=0) bO Z Z Z Z Z) Z
  exact .gH (bU.zx Z Z aZ Z ee) Z
 .intro _;refine⟨.fU bO b5.nil Z,.fU bO b5.nil Z,.fU bO b5.nil Z,?_,?_,.fU bO b5.nil Z,.fU bO b5.nil Z,.fU bO b5.nil Z,?_,?_,an,.fU bO b5.nil Z,an⟩
  .exact .gH (bU.ib (l:=0) bO Z Z Z Z Z) Z
  .exact .gH (bU.aef Z Z) Z
  .exact .gH (bU.ib (l:=0) bO Z Z Z Z Z) Z
  exact .gH (bU.zx Z Z aZ Z ee) Z
 .exact .FU (.gH (bU.aej Z Z Z) Z)
 intro _;refine bt Z an (I.dt [0] Z ?_ Z Z Z sd);simp
def XC(n:Nat)(c:0<n)(b:n<=140737488355328):e9 (ι:={p:Nat×Nat // n<=p.2}) X 247 [cE 0 0,dI n] [bb W af [] 0] (λ_=>.gI []) (λj=>[bb W (O j.1) [] 0]):=by
 refine e9.aad Tryz.func247 rfl rfl rfl ?_;refine ba [(1000000,W)] Z an ?_;have a:cd .i64 (n:Int):=ek;have v0:D:=jA (.slice af 0 0);refine I.Wi (ι:={p:Nat×Nat // n<=p.2}) gB 8 (λi=>bP i 7||(bP 9 i&&bP i 13)) (λi=>[dp,dp,Wj,jA (.slice af 0 0),dI (0:Nat),dI 0,dI n,dI n,.any,dp,dp,Wj,jA (.slice af 0 0),dI (0:Nat)].getD i .any)
  (λj i=>[jA (tk (O j.1) n),.any,.any,.any,.any,.any,jA (.slice (O ⟨j.1.1,0,af⟩) 0 j.1.2),jA (.slice (O ⟨j.1.1,0,af⟩) 0 j.1.2)].getD (i-8) .any)
  (λj=>[bB W (.slice af 0 0) (O j.1) [] 0]) Z Z Z Z Z Z ?_ ?_ ?_ ?_
 .refine⟨.fU bO b5.nil Z,.fU bO b5.nil Z,.fU bO b5.nil Z,?_,?_,?_,.fU bO b5.nil Z,?_,an,.fU bO b5.nil Z,.fU bO b5.nil Z,.fU bO b5.nil Z,?_,?_,an,an,an⟩
  .exact .gH (bU.ib (l:=0) bO Z Z Z Z Z) Z
  .exact .gH (bU.Wz Z Z aZ Z ee) Z
  .exact .gH (Lf 0 Z Z Z qJ (λw=>rfl) (λw=>rfl)) Z
  .exact .gH (afh Z Z Z a) Z
  .exact .gH (bU.ib (l:=0) bO Z Z Z Z Z) Z
  exact .gH (bU.zx Z Z aZ Z ee) Z
 .intro j;have d:j.1.2≠0:=az;refine⟨.fU bO b5.nil Z,.fU bO b5.nil Z,.fU bO b5.nil Z,?_,?_,?_,.fU bO b5.nil Z,?_,an,.fU bO b5.nil Z,.fU bO b5.nil Z,.fU bO b5.nil Z,?_,?_,?_,.fU bO b5.nil Z,an⟩
  .exact .gH (bU.ib (l:=0) bO Z Z Z Z Z) Z
  .exact .gH (bU.Wz Z Z aZ Z ee) Z
  .exact .gH (Lf 0 Z Z Z qJ (λw=>rfl) (λw=>rfl)) Z
  .exact .gH (afh Z Z Z a) Z
  .exact .gH (bU.ib (l:=0) bO Z Z Z Z Z) Z
  .exact .gH (bU.zx Z Z aZ Z ee) Z
  exact .gH (bU.aeh (k:=0) Z aZ (gC Tryz.type5) Z Z (kn _) j.2 d (eg _ _ _)) Z
 .exact .nB Z (aed (l:=0) (ps:=#[3]) aZ Tryz.func261 bw bw bw bw rfl rfl rfl c b rfl)
 intro j;refine bt Z an (I.gH (bU.ib (l:=0) bO Z Z Z Z Z) Z Z ?_);refine I.gH (bU.aei Z aZ (gC Tryz.type5) Z Z) Z Z ?_;refine bt Z an (I.gH (bU.Ff (l:=0) bO Z Z Z Z Z Z Z) Z Z ?_);exact bt Z an ⟨j,cM.sX [0] Z an Z Z Z sd⟩
def Nz(n:Nat)(b:0<n)(a:n<=140737488355328):e9 (ι:={p:Nat×Nat // n<=p.2}) X 223 [cE 0 0,dI n] [bb ae af [] 0] (λ_=>.gI []) (λj=>[bb W (O j.1) [] 0]):=by
 refine e9.aad Tryz.func223 rfl rfl rfl ?_;refine bt Z an (I.cQ (Ii (tk af 0) Z af [] 0) [0] Z (ba [(7,ae),(1000003,W)] Z ay ?_));refine I.Wi gB 4 (λi=>bP i 3||(bP 5 i&&bP i 9)||aC i 11) (λi=>[dp,dp,Wj,jA (.slice af 0 0),.any,dp,dp,Wj,jA (.slice af 0 0),dI (0:Nat),.any,dI n].getD i .any)
  (λ(_:Unit) i=>[dI (0:Nat),.any,.any,.any,.any,.any,dI (0-0),.any,dB W].getD (i-4) .any)
  (λ_=>[bb W af [] 0]) Z Z Z Z Z Z ?_ ?_ ?_ ?_
 .refine⟨.fU bO b5.nil Z,.fU bO b5.nil Z,.fU bO b5.nil Z,?_,an,.fU bO b5.nil Z,.fU bO b5.nil Z,.fU bO b5.nil Z,?_,?_,an,.fU bO b5.nil Z,an,an⟩
  .exact .gH (bU.ib (l:=0) bO Z Z Z Z Z) Z
  .exact .gH (bU.ib (l:=0) bO Z Z Z Z Z) Z
  exact .gH (bU.zx Z Z aZ Z ee) Z
 .intro _;refine⟨.fU bO b5.nil Z,.fU bO b5.nil Z,.fU bO b5.nil Z,?_,an,.fU bO b5.nil Z,.fU bO b5.nil Z,.fU bO b5.nil Z,?_,?_,?_,.fU bO b5.nil Z,?_,an⟩
  .exact .gH (bU.ib (l:=0) bO Z Z Z Z Z) Z
  .exact .gH (bU.ib (l:=0) bO Z Z Z Z Z) Z
  .exact .gH (bU.zx Z Z aZ Z ee) Z
  .exact .eval (ds:=[]) bO b5.nil (obs:=[cd .i64 (((0:Nat):Int)-((0:Nat):Int))]) Z qJ
  exact .eval (ds:=[(21,W)]) bO b5.nil (obs:=[decide ((0:Int)-0<(n:Int))=W]) Z c6
 .exact .FU (.gH (bU.Wz Z Z aZ Z ee) Z)
 intro _;refine bt Z an (I.cP (XC n b a) [0] Z fe λj=>?_);exact bt Z an ⟨j,cM.sX [0] Z an Z Z Z sd⟩
def Tk:Ev X 223 [cE 0 0,dI (0:Nat)] [bb ae af [] 0] (.gI []) [bb W af [] 0]:=by
 refine Ev.bQ Tryz.func223 rfl λa=>?_;refine bt Z an (I.cQ (Ii (tk af 0) Z af [] 0) [0] Z (ba [(7,ae),(1000003,W)] Z ay ?_));refine I.Wi gB 4 (λi=>bP i 3||(bP 5 i&&bP i 9)||aC i 11) (λi=>[dp,dp,Wj,jA (.slice af 0 0),.any,dp,dp,Wj,jA (.slice af 0 0),dI (0:Nat),.any,dI (0:Nat)].getD i .any)
  (λ(_:Unit) i=>[dI (0:Nat),.any,.any,.any,.any,.any,dI (0-0),.any,dB ae].getD (i-4) .any)
  (λ_=>[bb W af [] 0]) Z Z Z Z Z Z ?_ ?_ ?_ ?_
 .refine⟨.fU bO b5.nil Z,.fU bO b5.nil Z,.fU bO b5.nil Z,?_,an,.fU bO b5.nil Z,.fU bO b5.nil Z,.fU bO b5.nil Z,?_,?_,an,.fU bO b5.nil Z,an,an⟩
  .exact .gH (bU.ib (l:=0) bO Z Z Z Z Z) Z
  .exact .gH (bU.ib (l:=0) bO Z Z Z Z Z) Z
  exact .gH (bU.zx Z Z aZ Z ee) Z
 .intro _;refine⟨.fU bO b5.nil Z,.fU bO b5.nil Z,.fU bO b5.nil Z,?_,an,.fU bO b5.nil Z,.fU bO b5.nil Z,.fU bO b5.nil Z,?_,?_,?_,.fU bO b5.nil Z,?_,an⟩
  .exact .gH (bU.ib (l:=0) bO Z Z Z Z Z) Z
  .exact .gH (bU.ib (l:=0) bO Z Z Z Z Z) Z
  .exact .gH (bU.zx Z Z aZ Z ee) Z
  .exact .eval (ds:=[]) bO b5.nil (obs:=[cd .i64 (((0:Nat):Int)-((0:Nat):Int))]) Z qJ
  exact .eval (ds:=[(21,ae)]) bO b5.nil (obs:=[decide ((0:Int)-0<((0:Nat):Int))=ae]) Z ay
 .exact .FU (.gH (bU.Wz Z Z aZ Z ee) Z)
 intro _;exact bt Z an (cM.sX [0] Z an Z Z Z sd)
def Tl(h:o.op=.alloc 292):bU ag o η U (cE (V U) 0) (U++[bb ae af [] 0]) :=
 bU.aa0 h (λw=>by simp) (λw es=>by simp)
def Tm{z:aG}{a b c:Int}(m:Int)(h:o.op=.call {callee:=.builtin .min,args:=#[x,y,z],argTypes:=lh})(q:η x=dI a)(p:η y=dI b)(r:η z=dI c)(v:min (min a b) c=m)(t:cd .i64 m):bU ag o η U (dI m) U:=by refine .dw λs n u d=>?_;have k:=d x;have g:=d y;have f:=d z;rw[q]at k;rw[p]at g;rw[r]at f;replace k:=gG k;replace g:=gG g;replace f:=gG f;generalize i:n x=vx at k;generalize l:n y=vy at g;generalize j:n z=vz at f;cases k;cases g;cases f;have e:(if c<(if b<a then b else a)then c else if b<a then b else a)=m:=az;exact⟨.int .i64 m,by simp[ar,h,resolve,invoke,builtin,i,l,j,Builtin.min_,Builtin.min2,e],.int t,by simp[ar,h,resolve,invoke,builtin,i,l,j,Builtin.min_,Builtin.min2]⟩
def Tn(n:Nat)(o:2<=n)(l:n<=3):Ev X 194 [dS [46],dI n] [] (dS (List.replicate n 46)) []:=by
 refine Ev.bQ Tryz.func194 rfl λp=>?_;have a:b5 X [(236,ab9)]:=.cons t236 .nil;refine bj a [(13,ae),(15,ae),(18,ae),(30,ae),(33,ae),(40,ae),(44,ae),(45,ae),(46,ae),(47,ae),(48,ae),(96,ae),(1000035,W)] Z ?_ ?_
 .have h:(n:Int)=2∨(n:Int)=3:=aq;have e:(lM [46] 0).toNat=46:=rfl;simp[cd,e,h];omega
 refine I.region ?_;refine I.gH (Tl Z) Z Z ?_;refine cY a Z an (I.cP (Nz n aq aq) [0] Z fe λj=>?_);obtain⟨⟨g,cap⟩,b⟩:=j;have b:n<=cap:=b;refine cY a Z an (I.cQ (Ld g cap [] [46] 0 ay c6) [0] Z (cY a Z an (I.lQ (λk=>1<=k/\k<=n) (λk:Nat=>[(0,dS [46]),(7,dI n),(8,dI n),(9,cE 0 0)]) (λk=>[bb W (O (g,cap)) (List.replicate k 46) (k-1)]) (λk=>n-k) 1 Z ay Z ay ⟨by omega,by omega⟩ ?_)));rintro k ⟨d,f⟩;refine cY a Z an (I.cQ (Gd W (O (g,cap)) (List.replicate k 46) (k-1) c6 ay) [0] Z ?_);by_cases hk:k<n
 .refine bj a [(113,W)] Z c6 (I.cQ (Gd W (O (g,cap)) (List.replicate k 46) (k-1) c6 ay) [0] Z (cY a Z KE (I.cQ (Gd W (O (g,cap)) (List.replicate k 46) (k-1) c6 ay) [0] Z (cY a Z an (I.gH (Tm 1 Z Z Z Z c6 qJ) Z Z ?_)))));refine cY a Z an (I.cQ (Le g cap (List.replicate k 46) (k-1) c6 aq) [0] Z ?_);have i:zu (List.replicate k (46:UInt8)) af (O 1)=[46]:=by
   obtain⟨m,rfl⟩:∃m,k=m+1:=⟨k-1,by omega⟩
   exact ek
  refine cY a Z c6 ?_;rw[i];refine I.cQ (Ld g cap (List.replicate k 46) [46] (V (List.replicate k 46)) ay c6) [0] Z ?_;have c:List.replicate k (46:UInt8)++[46]=List.replicate (k+1) 46:=by rw[List.replicate_succ']
  rw[c];refine cY a Z an (I.iD (k+1) Z ay Z ?_ ⟨by omega,by omega⟩ aq);simp
 refine bj a [(113,ae)] Z c6 (I.gE Z Z ?_);have e:k=n:=aq;subst e;exact cY a Z an (I.cQ (Le g cap (List.replicate k 46) (k-1) c6 aq) [0] Z (cY a Z an (I.bE Z)))
def ajd:fp X 194 O1:=afi (Tn 2 aq aq) (Tn 3 aq aq)
def XD:fp X 150 rj:=afj ajd
def XE(bf:Option (Nat×Nat))(n:Nat):Prop:=match bf with|none=>n=0|some (_,cap)=>n<=cap/\0<cap
def _root_.Go.AM.e9.re{b:Type}{X:Cx P}{f:aO}{args:List D}{U':ι->List bq}{a:b->D}{σ2:b->List bq}(h:e9 X f args U res U')(g:ι->b)(c:∀i,a (g i)=res i)(d:∀i,σ2 (g i)=U' i):e9 X f args U a σ2 :=
 ⟨h.1,λs vs h1 h2 S cs hS=>h.2 s vs h1 h2 S cs λi fr v s' k1 k2 k3 k4=>hS (g i) fr v s' k1 az az az⟩
def To(n:Nat)(a:n<=140737488355328):e9 (ι:={bf:Option (Nat×Nat) // XE bf n}) X 223 [cE 0 0,dI n] [bb ae af [] 0] (λ_=>.gI []) (λj=>[bb W j.1 [] 0]):=by
 by_cases h:n=0
 .subst h;exact Tk.uW.re (λ_=>⟨af,Z⟩) fe fe
 exact(Nz n aq a).re (λp=>⟨O p.1,p.2,by grind⟩) fe fe
def Lg(bf:Option (Nat×Nat))(xs s:Bs)(a:V s<=9223372036854775807)(h:XE bf (V xs+V s)):Ev X 224 [cE 0 0,dS s] [bb W bf xs 0] (.gI [.bX (.c (.int .i64 (V s))),.bX (.c .kG)]) [bb W bf (xs++s) 0]:=by
 cases bf with
 |none =>
  have h:V xs+V s=0:=h;grind[ab8]
 |some p=>exact Ld p.1 p.2 xs s 0 a h.1
def afk(bf:Option (Nat×Nat))(xs:Bs):Nat:=match bf with|none=>0|some _=>V xs
def XF(bf:Option (Nat×Nat))(xs:Bs)(a:V xs<=9223372036854775807)(h:XE bf (V xs)):Ev X 225 [cE 0 0] [bb W bf xs 0] (dS xs) [bb W bf xs (afk bf xs)]:=by
 cases bf with
 |none =>
  have h:V xs=0:=h;have b:xs=[]:=kB h;subst b;exact XB
 |some p=>exact Le p.1 p.2 xs 0 a (by have:=h.2;omega)
def NA(l:List Bs)(i:Nat):Bs:=(l.take i).flatten
def Tp{l:List Bs}(h:i<V l):NA l (i+1)=NA l i++l.getD i []:=by unfold NA;grind[List.take_add_one]
def afl{l:List Bs}:NA l (V l)=l.flatten:=by simp[NA]
def Tq{l:List Bs}(i:Nat):V (NA l i)<=V l.flatten:=by have e:l.flatten=(l.take i).flatten++(l.drop i).flatten:=QY;rw[e,cj];simp only[NA];omega
def XG(l:List Bs)(k:V l.flatten<=140737488355328):Ev X 174 [cS.sl l,dS []] [] (dS l.flatten) []:=by
 refine Ev.bQ Tryz.func174 rfl λm=>?_;have g:=m.sl 0 Z;by_cases q:l=[]
 .subst q;refine ba [(14,W)] Z ?_ (I.bE Z);simp
 by_cases r:V l=1
 .obtain⟨x,rfl⟩:=List.length_eq_one_iff.1 r;refine ba [(14,ae),(16,W)] Z ay (I.bE Z ?_);simp
 have u:2<=V l:=by have:V l≠0:=az;omega
 refine ba [(14,ae),(16,ae),(22,ae)] Z ek (I.lQ (λi=>i<=V l) (λi:Nat=>[(0,cS.sl l),(1,dS []),(5,dI (V (NA l i))),(39,cS.sl l),(40,dI (V l)),(41,dI i)]) (λ_=>[]) (λi=>V l-i) 0 Z ?_ Z an aq ?_)
 .simp[NA]
 intro i hi;have v:=Tq (l:=l) i;by_cases h:i<V l
 .have b:=Tq (l:=l) (i+1);rw[Tp h,cj]at b;refine ba [(42,W),(49,ae)] Z ?_ (I.iD (i+1) Z ?_ Z an aq aq)
  .have e:(l.getD (i:Int).toNat cS.cy)=l.getD i []:=rfl;simp only[aA,cd,e];grind
  have e:(l.getD (i:Int).toNat cS.cy)=l.getD i []:=rfl;rw[Tp h];simp_all
 have e:i=V l:=aq;subst e;refine ba [(42,ae),(1000018,W)] Z ay (I.gE Z Z ?_);refine ba [(1000018,W)] Z an (I.region ?_);refine I.gH (Tl Z) Z Z ?_;refine dj Z an ?_;rw[afl];refine I.cP (To (V l.flatten) k) [0] Z fe λj=>?_;obtain⟨bf,d⟩:=j;refine dj Z c9 ?_;have room:∀n,n<=V l.flatten->XE bf n:=λn s=>by
  cases bf with
  |none =>
   have:V l.flatten=0:=d;grind
  |some p=>exact⟨hZ s d.1,d.2⟩
 have t:NA l 1=l.getD 0 []:=by rw[Tp aq];simp[NA]
 have f:=Tq (l:=l) 1;rw[t]at f;refine I.cQ (Lg bf [] (l.getD 0 []) aq (room _ az)) [0] Z (dj Z c9 (I.lQ (λi=>i+1<=V l) (λi:Nat=>[(1,dS []),(8,cE 0 0),(63,b7 (.sl ae 1 (V l-1) (nY 1 (cS.fn l)))),(64,dI (V l-1:Nat)),(65,dI i)]) (λi=>[bb W bf (NA l (i+1)) 0]) (λi=>V l-i) 0 Z E9 Z ek aq ?_));intro i hi;have o:=Tq (l:=l) (i+1);by_cases h:i+1<V l
 .have a:=Tq (l:=l) (i+2);rw[Tp h,cj]at a;refine ba [(66,W)] Z c9 (I.cQ (Lg bf (NA l (i+1)) [] ay (room _ az)) [0] Z ?_);rw[iZ];refine bt Z an (I.cQ (Lg bf (NA l (i+1)) (l.getD (1+i) []) az (room _ az)) [0] Z (bt Z ek (I.iD (i+1) Z ay Z ?_ aq aq)));refine aA.eu.2 ⟨?_,an⟩;rw[Tp h,Nat.add_comm 1 i];simp
 have e:i+1=V l:=aq;refine ba [(66,ae)] Z c9 (I.gE Z Z ?_);rw[e,afl];exact bt Z an (I.cQ (XF bf l.flatten aq (room _ aq)) [0] Z (bt Z an (I.bE Z)))
def O5{s:Bs}(h:cV s=W)(i:Nat)(hi:i<V s):97<=dM s i/\dM s i<=122:=by have a:=bL.1 h (s.getD i 0) az;simp only[iG,cu,bu]at a;unfold dM;omega
def Iu(s:Bs)(i:Nat)(a:cV s=W)(e:3<=i)(hi:i<=V s)(f:V s<=4000000):Ev X 257 [dS s,dI i] [] (dB (kO s i)) []:=by
 refine Ev.bQ Tryz.func257 rfl λj=>?_;have g:=O5 a (i-1) aq;have h:=O5 a (i-2) aq;have k:=O5 a (i-3) aq;have d:((lM s ((i:Int)-1)).toNat:Int)=dM s (i-1):=DJ;have b:((lM s ((i:Int)-2)).toNat:Int)=dM s (i-2):=DJ;have c:((lM s ((i:Int)-3)).toNat:Int)=dM s (i-3):=DJ;refine bt Z ?_ (I.bE Z ?_)
 .simp only[aA,cd,d,b,c];omega
 simp only[aA,aA.eu,d,b,c,kO,dl,aW];grind
def O6:fp X 257 (qb aS aI (λs i=>dB (kO s i.toNat)) λs i=>[cV s=W,3<=i,i<=V s,V s<=4000000]):=.s9 λs i h=>by
 obtain⟨b,d,c,a⟩:=h;obtain⟨m,rfl⟩:∃m:Nat,i=m:=⟨i.toNat,by omega⟩
 exact Iu s m b aq aq a
def BM{a b:Int}(m:Int)(h:o.op=.call {callee:=.builtin .min,args:=#[x,y],argTypes:=lh})(l:η x=dI a)(k:η y=dI b)(q:min a b=m)(n:cd .i64 m):bU ag o η U (dI m) U:=by refine .dw λs j p i=>?_;have f:=i x;have c:=i y;rw[l]at f;rw[k]at c;replace f:=gG f;replace c:=gG c;generalize d:j x=vx at f;generalize g:j y=vy at c;cases f;cases c;have e:(if b<a then b else a)=m:=az;exact⟨.int .i64 m,by simp[ar,h,resolve,invoke,builtin,d,g,Builtin.min_,Builtin.min2,e],.int n,by simp[ar,h,resolve,invoke,builtin,d,g,Builtin.min_,Builtin.min2]⟩
theorem TE{t:Bs}{f:Nat}(h:V t<=f+3+j)(b:j<=5):yl t f (5-j)=min (f+8) (V t):=by
 rcases dy j 5 with a|a
 .obtain⟨k,hk⟩:∃k,5-j=k+1:=⟨4-j,by omega⟩
  rw[hk];simp only[yl];grind
 rw[show 5-j=0 by omega];rfl
def O7(t:Bs)(f:Nat)(l:cV t=W)(n:f<=V t)(o:V t<=4000000):Ev X 234 [dS t,dI f] [] (dI (fH t f)) []:=by
 refine Ev.bQ Tryz.func234 rfl λq=>?_;have a:b5 X [(257,qb aS aI (λs i=>dB (kO s i.toNat)) λs i=>[cV s=W,3<=i,i<=V s,V s<=4000000])]:=.cons O6 .nil;refine cp a Z ek (I.lQ (λj=>j<=5/\yl t f (5-j)=fH t f) (λj:Nat=>[(0,dS t),(1,dI f),(5,dI (f+3+j))]) (λ_=>[]) (λj=>5-j) 0 Z ay Z an ⟨by omega,Z⟩ ?_);rintro j ⟨p,b⟩;by_cases h:j<5/\f+3+j<V t
 .obtain⟨k,hk⟩:∃k,5-j=k+1:=⟨4-j,by omega⟩
  have d:f+(7-k)=f+3+j:=aq;rw[hk]at b;simp only[yl,d]at b;rw[bc aq]at b;have e:((f:Int)+3+j).toNat=f+3+j:=aq;cases c:kO t (f+3+j)with
  |true =>
   rw[c,bh Z]at b;refine aY a [(11,W),(16,W),(22,W)] Z ?_ (I.j5 (cM.zero Z ?_))
   .simp only[aA,cd,e,c,l,bu,eq_self,aX,aW];omega
   exact c9
  |false =>
   rw[c,bc ay]at b;refine aY a [(11,W),(16,W),(22,ae)] Z ?_ (I.iD (j+1) Z ?_ Z an ⟨by omega,by grind⟩ aq)
   .simp only[aA,cd,e,c,l,bu,eq_self,aX,aW];omega
   exact c9
 have e:fH t f=min (f+8) (V t):=by
  rw[<-b];rcases dy j 5 with g|g
  .grind [TE]
  rw[show 5-j=0 by omega];rfl
 have m:cd .i64 ((min (f+8) (V t):Nat):Int):=ek;rcases dy j 5 with g|g
 .refine aY a [(11,W),(16,ae)] Z ?_ (I.gE Z Z ?_)
  .simp only[aA,cd,bu,dm];omega
  refine cp a Z ek (I.gH (BM ((min (f+8) (V t):Nat):Int) Z Z Z aq m) Z Z ?_);refine cp a Z an (I.bE Z ?_);simp[e]
 refine aY a [(11,ae)] Z ?_ (I.gE Z Z ?_)
 .simp only[aA,cd,bu,dm];omega
 refine cp a Z ek (I.gH (BM ((min (f+8) (V t):Nat):Int) Z Z Z aq m) Z Z ?_);refine cp a Z an (I.bE Z ?_);simp[e]
def aco:fp X 234 (qb aS aI (λs i=>dI (fH s i.toNat)) λs i=>[cV s=W,0<=i,i<=V s,V s<=4000000]):=.s9 λs i h=>by
 obtain⟨b,d,c,a⟩:=h;obtain⟨m,rfl⟩:∃m:Nat,i=m:=⟨i.toNat,by omega⟩
 exact O7 s m b aq a
abbrev aag(t:Bs):C:=.fn (.func 233) [] [.rp [.du t]]
theorem XN(t:Bs):Ev X 187 [dS t] [] (b7 (aag t)) []:=by refine Ev.bQ Tryz.func187 rfl λa=>?_;refine sY [] 5 Z an ?_;refine I.freeze 1 0 Z Z Z ?_;exact bt Z an (I.bE Z)
def O8{T:Type}(text:Bs)(p:cV text=W)(o:V text<=4000000){N0:Nat}{J0:Fr}{d:Loop}(b B1 B2:T->bq)(R:Nat->T->Prop)(g:T)(n:R 0 g)(hB:∀t,b t≠.vr/\B1 t≠.vr/\B2 t≠.vr)(BN:∀f t,f<V text->R f t->md (ι:={a:T // R (fH text f) a}) X 3 [dI f,dI (fH text f)] [b t,B1 t,B2 t,.loop N0 J0 d] W (λa=>[b a.1,B1 a.1,B2 a.1,.loop N0 J0 d])):
  e9 (ι:={t:T // R (V text) t}) X 233 [.e (.bX (.oY 3)),b7 (.rp [.du text])] [b g,B1 g,B2 g,.loop N0 J0 d] (λ_=>.gI []) (λi=>[b i.1,B1 i.1,B2 i.1,.loop N0 J0 d]):=by
 refine e9.FT Tryz.func233 rfl rfl rfl (I.dX ?_);have j:b5 X [(234,qb aS aI (λs i=>dI (fH s i.toNat)) λs i=>[cV s=W,0<=i,i<=V s,V s<=4000000])]:=.cons aco .nil;refine cp j Z an ?_;show AW X _ (.loop _) _ _ _;refine AW.loop (S:=T×Nat) (λx=>x.2<=V text/\R x.2 x.1) (λx=>[(0,.e (.bX (.oY 3))),(1,b7 (.rp [.du text])),(3,dI x.2)]) (λx=>[b x.1,B1 x.1,B2 x.1,.loop N0 J0 d]) (λx=>V text-x.2) (g,0) ⟨kn _,n⟩ (dJ Z ay) Z ?_;rintro⟨t,f⟩ ⟨m,k⟩;simp only at m k;refine I.dX ?_;by_cases h:f<V text
 .have l:=pg text f h;refine aY j [(8,W)] Z fC (I.yield (BN f t h k) Z Z Z Z Z Z λa=>?_);refine aY j [(16,ae)] Z ay ⟨(a.1,fH text f),⟨l.2.1,a.2⟩,?_,dJ Z ay,Z⟩;grind
 have e:f=V text:=aq;subst e;refine aY j [(8,ae)] Z ay (I.SR Z Z ?_);exact⟨⟨t,k⟩,.inr Z,Z,vK (hB t).1 (vK (hB t).2.1 (vK (hB t).2.2 Z)),[],.gI [],[],Z,Z,Z,an⟩
def ado(h:o.op=.binOp op t x (.const (.pointer af)) ty){e:av}(f:P.underlying t=O (.pointer e)){c:Bool}{lt rt:Tr}{a b:Int}(n:η x=.e (.bX (.oY l)))(j:eH l U=O (.cJ (qG E (.nd lt a b rt))))(k:η (.const (.pointer af))=b7 .ki)(m:lx op ae=O c):bU P o η U (b7 (.bool c)) U:=by
 refine BK h f (b:=ae) ?_ m;intro s u v r i d;rw[n]at i;rw[k]at d;replace d:=gG d;cases d;obtain⟨_,L,p,rfl,_⟩:=(i:jh U s u (.oY l));obtain⟨_,⟨b,_,_,_,_,y,_⟩,_⟩:=r.box l _ L (cD j) p;rw[y];have q:(Op.equal t (.pointer (O ⟨b,0,af⟩)) (.pointer af)).run P s.w=.ok ae s.w:=QJ
 have g:∀es,(Op.equal t (.pointer (O ⟨b,0,af⟩)) (.pointer af)).events P s.w es=es:=λes=>by show(bx (9999+1) t _ _).events P s.w es=es;unfold bx;simp[underlying,f]
 exact⟨_,af,Z,Z,Z,by cases op<;>simp[eqGuard],λes=>by cases op<;>simp[eqGuard],q,g⟩
abbrev YL(a b:Int):D:=.e (.agg [.c (.int .i64 a),.c (.int .i64 b)])
abbrev QE:av:=256
def GW(a b:Int)(t:Tr):∃l x y r,t.put a b=.nd l x y r:=by
 cases t with
 |nil=>exact⟨_,_,_,_,rfl⟩
 |nd l x y r =>
  simp only[Tr.put];split
  .grind
  split<;>exact⟨_,_,_,_,rfl⟩
def Vr:∀(ks:List Nat)(j:Nat),j<0->ks[j]?=O j:=λ_ j a=>absurd a aq
def mn:∀j,j<1->([0]:List Nat)[j]?=O j:=λj a=>by grind
def GX(a b:Int)(r:cd .i64 a)(p:cd .i64 b):∀t:Tr,Ev X 186 [.e (.bX (D9 t 0)),YL a b] (Ao QE t) (.e (.bX (.oY 0))) [.cJ (qG QE (t.put a b))]
 |.nil=>by refine Ev.bQ Tryz.func186 rfl λv=>?_;refine bt Z an (I.gH (yk Z Tryz.underlying195 Z Z Z) Z Z ?_);refine bt Z an (I.lN 4 1 0 0 (lt:=.nil) (rt:=.nil) Z Z (λh=>absurd Z h) (λh=>absurd Z h) (λh=>absurd Z h) ?_);exact I.dt [1] Z ay Z Z Z (Vr _)
 |.nd lt x y rt=>by
  have m:=GX a b r p lt;have i2:=GX a b r p rt;obtain⟨f,k,i,c,u⟩:=GW a b lt;obtain⟨l,g,j,d,o⟩:=GW a b rt;have q:(Tr.nd lt x y rt).put a b=if a<x then .nd (lt.put a b) x y rt else if x<a then .nd lt x y (rt.put a b)else .nd lt a b rt:=rfl;rw[q];rw[u]at m⊢;rw[o]at i2⊢;have c1:b5 X [(186,vg [.e (.bX (D9 lt 0)),YL a b] (Ao QE lt) (.e (.bX (.oY 0))) [.cJ (qG QE (.nd f k i c))])]:=.cons (vh m) .nil;have c2:b5 X [(186,vg [.e (.bX (D9 rt 0)),YL a b] (Ao QE rt) (.e (.bX (.oY 0))) [.cJ (qG QE (.nd l g j d))])]:=.cons (vh i2) .nil;clear m i2 q u o;refine Ev.bQ Tryz.func186 rfl λv=>?_;refine bt Z an (I.gH (ado Z Tryz.underlying195 Z Z Z Z) Z Z ?_);refine bt Z an (I.Th 0 0 Z Z ?_);by_cases s:a<x
  .rw[bh s];cases lt<;>cases rt<;>refine bj c1 [(15,W)] rfl ek ?_
   .refine I.lN 4 0 2 9 (lt:=.nd f k i c) (rt:=.nil) Z Z fe (λh=>absurd Z h) (λ_ h=>absurd Z h) ?_;exact I.dt [0] Z ay Z Z Z mn
   .refine I.lN 4 0 3 2 (lt:=.nd f k i c) (rt:=_) Z Z fe fe (λ_ _=>by decide) ?_;exact I.dt [0] Z ay Z Z Z mn
   .refine I.lN 4 0 2 9 (lt:=.nd f k i c) (rt:=.nil) Z Z fe (λh=>absurd Z h) (λ_ h=>absurd Z h) ?_;exact I.dt [0] Z ay Z Z Z mn
   refine I.lN 4 0 2 3 (lt:=.nd f k i c) (rt:=_) Z Z fe fe (λ_ _=>by decide) ?_;exact I.dt [0] Z ay Z Z Z mn
  rw[bc s];by_cases n:x<a
  .rw[bh n];cases lt<;>cases rt<;>refine bj c2 [(15,ae),(33,W)] rfl ek ?_
   .refine I.lN 4 0 9 2 (lt:=.nil) (rt:=.nd l g j d) Z Z (λh=>absurd Z h) fe (λh=>absurd Z h) ?_;exact I.dt [0] Z ay Z Z Z mn
   .refine I.lN 4 0 9 2 (lt:=.nil) (rt:=.nd l g j d) Z Z (λh=>absurd Z h) fe (λh=>absurd Z h) ?_;exact I.dt [0] Z ay Z Z Z mn
   .refine I.lN 4 0 2 3 (lt:=_) (rt:=.nd l g j d) Z Z fe fe (λ_ _=>by decide) ?_;exact I.dt [0] Z ay Z Z Z mn
   refine I.lN 4 0 2 3 (lt:=_) (rt:=.nd l g j d) Z Z fe fe (λ_ _=>by decide) ?_;exact I.dt [0] Z ay Z Z Z mn
  rw[bc n];cases lt<;>cases rt<;>refine bM [(15,ae),(33,ae)] rfl c9 ?_
  .refine I.lN 4 0 9 9 (lt:=.nil) (rt:=.nil) Z Z (λh=>absurd Z h) (λh=>absurd Z h) (λh=>absurd Z h) ?_;exact I.dt [0] Z ay Z Z Z mn
  .refine I.lN 4 0 9 2 (lt:=.nil) (rt:=_) Z Z (λh=>absurd Z h) fe (λh=>absurd Z h) ?_;exact I.dt [0] Z ay Z Z Z mn
  .refine I.lN 4 0 2 9 (lt:=_) (rt:=.nil) Z Z fe (λh=>absurd Z h) (λ_ h=>absurd Z h) ?_;exact I.dt [0] Z ay Z Z Z mn
  refine I.lN 4 0 2 3 (lt:=_) (rt:=_) Z Z fe fe (λ_ _=>by decide) ?_;exact I.dt [0] Z ay Z Z Z mn
end
end R1
end Go.AM
