/- Part 4. No condition. -/
import Derived.Test.YtmikbgondjokcaaGreatDoorA3
import Derived.Conc.WgGenN2
import Derived.Conc.LeavingOf
import Derived.Below
import Derived.ProofKit
import Derived.OpenShut
import Derived.OpenVars
import Derived.LaidMore
import Derived.Lay
import Derived.SevenTiedAt
import Derived.Lib.Bytealg
import Derived.Conc.DeferLaws
import Derived.Sort.AssemblyPlain
import Derived.Sort.LotD5
set_option linter.all false
set_option maxHeartbeats 8000000
open Go.Proofs
open Go renaming Value → ai, TypeId → av, undef → ah, Operand → aB, execOp → aq, World → ay, Program → aJ, Oper → aC, Goroutine → ar, stepG → aG, Frame → aX, FuncId → aH
open Option renaming some → aa, none → ae
open Bool renaming true → ab, false → af
open Go.World renaming cell? → aP
open List renaming getD_eq_getElem?_getD → aj, range → bc, all_eq_true → bz
open Go.Sem renaming events_bind → aR
open Go.Result renaming evThen_ok → aV
open Go.Instr renaming sureAddr → bt
open Nat renaming beq → aw, ble → bD
open Go.Op renaming equalIn → aZ, bytesLess → bq
open Go.Proofs.Tryz renaming prog → ag, underlying22 → aO
open Go.Conc renaming stepG_seq → aA, stepG_region_end → az
namespace Go.AM
variable {n:Nat}{k:Int}{l b i j:Nat}{E:av}{H:ai->(Nat->Option Obj)->Prop}{L:Array Bool}{M:Mem}{N:Nat}{P:aJ}{S:ar->St->Prop}{c:Code}{g:ar}{o:aC}{s:St}{t:av}{v:ai}{w:ay}{x y:aB}{α:Type}{η:aB->D}{ι:Type}{σ:List bg}{φ:Fr}{all:List aC}{jU:Array av}{cap:List C}{cv:List D}{cs:List aX}{ds:List (Nat×Bool)}{es:Nat->List C}{fo:aB}{ks:List Nat}{obs:List Prop}{off:Nat}{op:BinOp}{ops:Array aC}{ps:List Prop}{rest:List aC}{s':St}{ty:av}{val:Nat->Nat->ai}{vs:List ai}{w':ay}{xs:Array aB}{σ' σs:List bg}{res:ι->D}{σ1:ι->List bg}
variable {CT:List (Nat×dJ)}{K:List It}{Qf:Post}{T:List (Nat×TI)}{ie:TI}
section
open Go.Conc Go.RowKit Go.Conc.Lib Go.ConcR.Gen
open Go.ConcN (WgLive)
open Go.ConcN.Gen
open Go.ConcR (KK WgAt stA smA rd wr mk DC0)
set_option maxRecDepth 100000 in
def FL{L:WgLink}(H:WgLib P L){R:ay->ay->Prop}{Wg:Nat}(b:∀{w w1},WgLive L.tWg Wg w->R w w1->WgLive L.tWg Wg w1){b₀:aX}{a₀:Act}{ops₀:Array aC}{i₀:Nat}{rest₀:List Nat}{k₀:List Item}(g:ar)(hg:Tx L Wg (b₀.at a₀ (.inRegion ops₀ (i₀::rest₀)::k₀)) cs g)(w:ay)(a:WgLive L.tWg Wg w):
  ∃m,Goes P ab R DC0 (HW1 P R L Wg (G (b₀.at (a₀.put ((ops₀[i₀]?).bind (·.dst)) (.tuple #[])) (.inRegion ops₀ rest₀::k₀)) cs) (Tx L Wg (b₀.at a₀ (.inRegion ops₀ (i₀::rest₀)::k₀)) cs)) m g w:=by
 lib_facts
 obtain⟨T,rfl,q,s⟩:=hg;obtain⟨v0,v1,v2,v3,v4,v5,v6,v7,v8,v9,v10,v11,D,v13,v14,v15,v16,v17,O,v19,v20,v21,v22,v23,v24,v25,v26,v27,U,v29,v30,v31,W,v33,F,v35,y,z,v38,v39,x,B,v42,u,v44,Z,v46,v47,v48,X,v50,v51,V,v53,v54,C,v56,v57,v58,K,v60,Y,J,v63,v64,v65,Q,v67,v68,v69,v70,A,v72,v73,v74,N,E,v77,M,v79,v80,v81,v82,I,rfl⟩:=array84 T q;simp only[iL,jI,dn]at s;subst s;refine⟨30,?_⟩;unfold Tx;simp only[L7,body_wait,waitFn,gv]
 u_c stepG_block b a
 repeat (u_c aA b a)
 u_reg b a
 u_op b a
 u_op b a
 u_op b a
 u_call H.f_uLoad (nm_uLoad L) uLoadFn b a
 repeat (u_c aA b a)
 u_reg b a
 u_op b a
 u_c az b a
 repeat (u_c aA b a)
 u_reg b a
 u_op b a
 u_op b a
 u_op b a
 refine Goes.stop (λp j=>?_);replace a:=b a j;clear j;refine⟨rfl,λv hv f=>?_⟩;rcases ny v with rfl|hvp
 .replace f:WgAt L.tWg Wg p 0 0:=by grind
  refine⟨_,stepG_load_atomic (v:=0) rfl rfl (by k_ne) rfl H.f_loadU64 (x_loadU64_n L) (x_loadU64_b L) (x_loadU64_x L) .u64 (x_loadU64_f L) rfl f.cellSt,λ_=>⟨80,?_⟩,λh=>absurd rfl h⟩;clear f
  walk_nrm
  u_op b a
  u_c az b a
  u_c stepG_ret' b a
  u_leave1 H.f_uLoad b a
  u_op b a
  u_c az b a
  repeat (u_c aA b a)
  u_reg b a
  u_op b a
  u_op b a
  u_op b a
  u_op b a
  u_c az b a
  repeat (u_c aA b a)
  u_reg b a
  u_op b a
  u_op b a
  u_op b a
  u_op b a
  u_c az b a
  repeat (u_c aA b a)
  u_reg b a
  u_op b a
  u_op b a
  u_c az b a
  repeat (u_c aA b a)
  u_cond ab b a
  repeat (u_c aA b a)
  u_cond ab b a
  repeat (u_c aA b a)
  u_reg b a
  refine Goes.stop (λd c=>?_);clear c;refine⟨rfl,_,λw=>stepG_mark0 .enable (by simp) rfl rfl (by k_ne) rfl H.f_enable (x_enable_n L) (x_enable_b L) (x_enable_x L) (x_enable_f L),λw a=>⟨20,?_⟩⟩
  walk_nrm
  u_c az b a
  repeat (u_c aA b a)
  u_reg b a
  u_op b a
  u_conv H.underlying_tWgP H.room_tWg (Go.ConcN.Gen.WgLive.cell0 a).choose_spec b a
  refine Goes.stop (λd c=>?_);clear c;refine⟨rfl,_,λw=>stepG_markAt .acquire (by simp) rfl rfl (by k_ne) rfl H.f_acquire (x_acquire_n L) (x_acquire_b L) (x_acquire_x L) (x_acquire_f L) (by simp[Act.eval,stA]),λw a=>⟨40,?_⟩⟩
  walk_nrm
  u_c az b a
  repeat (u_c aA b a)
  u_reg b a
  u_op b a
  u_op b a
  u_op b a
  u_op b a
  u_op b a
  u_op b a
  u_op b a
  u_op b a
  u_skip b a
  u_skip b a
  u_op b a
  u_c az b a
  repeat (u_c aA b a)
  u_cond af b a
  u_c stepG_skip b a
  u_c stepG_ret' b a
  u_leave0 H.f_wait b a
  grind[Goes.stop]
 .obtain⟨S,l⟩:∃S:Int,(v:Int)*KK=S:=⟨_,rfl⟩;have a1:S / 4294967296=(v:Int):=by rw[<-l];simp only[KK];omega
  have b1:bits .and .u64 S 2147483648=0:=by rw[<-l];have:=Go.ConcN.st_flag v 0 (by omega) (by omega);simpa[KK]using this
  have b2:bits .and .u64 S 2147483647=0:=by rw[<-l];have:=Go.ConcN.st_waiters v 0 (by omega) (by omega);simpa[KK]using this
  have c1:IntKind.i32.wrap (v:Int)=(v:Int):=by grind[IntKind.wrap_i32]
  have w1:IntKind.u64.wrap (S+1)=S+1:=by rw[IntKind.wrap_u64,<-l];simp only[KK];omega
  have q3:decide ((v:Int)<0)=af:=iM (by omega);have q4:decide (0<(v:Int))=ab:=de (by omega);have q5:((v:Int)==0)=af:=by grind
  have q6:decide ((v:Int)=0)=af:=iM (by omega);rw[l]at f;refine⟨_,stepG_load_atomic (v:=S) rfl rfl (by k_ne) rfl H.f_loadU64 (x_loadU64_n L) (x_loadU64_b L) (x_loadU64_x L) .u64 (x_loadU64_f L) rfl f.cellSt,λh0=>absurd h0 (by omega),λ_=>⟨80,?_⟩⟩;clear f
  walk_nrm
  u_op b a
  u_c az b a
  u_c stepG_ret' b a
  u_leave1 H.f_uLoad b a
  u_op b a
  u_c az b a
  repeat (u_c aA b a)
  u_reg b a
  u_op b a
  u_op b a
  u_op b a
  u_op b a
  u_c az b a
  repeat (u_c aA b a)
  u_reg b a
  u_op b a
  u_op b a
  u_op b a
  u_op b a
  u_c az b a
  repeat (u_c aA b a)
  u_reg b a
  u_op b a
  u_op b a
  u_c az b a
  repeat (u_c aA b a)
  u_cnd af b a
  u_c stepG_skip b a
  repeat (u_c aA b a)
  u_reg b a
  u_op b a
  u_op b a
  u_op b a
  u_op b a
  u_op b a
  u_op b a
  u_call H.f_uCas (nm_uCas L) uCasFn b a
  repeat (u_c aA b a)
  u_reg b a
  u_op b a
  u_c az b a
  repeat (u_c aA b a)
  u_reg b a
  u_op b a
  u_op b a
  u_op b a
  u_op b a
  u_op b a
  refine Goes.stop (λd c=>?_);replace a:=b a c;clear c;refine⟨rfl,λv' XR f=>⟨λe=>?_,λe=>?_⟩⟩
  .subst e;rw[l]at f⊢;refine⟨_,(stepG_cas_hit (v:=S) (n:=S+1) rfl rfl (by k_ne) rfl H.f_casU64 (x_casU64_n L) (x_casU64_b L) (x_casU64_x L) .u64 (x_casU64_f L) rfl rfl rfl f.cellSt (f.thaw 0)).trans (by rfl),90,?_⟩;replace a:WgLive L.tWg Wg (d.setCell (stA Wg) (.int .u64 (S+1))):=⟨_,_,f.setSt _⟩
   clear f
   walk_nrm
   u_op b a
   u_c az b a
   u_c stepG_ret' b a
   u_leave1 H.f_uCas b a
   u_c az b a
   repeat (u_c aA b a)
   u_cond ab b a
   repeat (u_c aA b a)
   u_reg b a
   u_op b a
   u_op b a
   u_op b a
   u_op b a
   u_c az b a
   repeat (u_c aA b a)
   u_cond ab b a
   repeat (u_c aA b a)
   u_reg b a
   u_op b a
   u_op b a
   u_op b a
   u_conv H.underlying_tPU32 H.room_tU32 (Go.ConcN.Gen.WgLive.cell1 a).choose_spec b a
   refine Goes.stop (λd c=>?_);clear c;refine⟨rfl,_,⟨Wg,1,ae⟩,rfl,λw=>stepG_markAt .write (by simp) rfl rfl (by k_ne) rfl H.f_raceWrite (x_raceWrite_n L) (x_raceWrite_b L) (x_raceWrite_x L) (x_raceWrite_f L) (ad:=⟨Wg,1,ae⟩) (by simp[Act.eval]),λw a=>⟨60,?_⟩⟩
   walk_nrm
   u_c az b a
   repeat (u_c aA b a)
   u_reg b a
   u_op b a
   u_c az b a
   repeat (u_c aA b a)
   u_reg b a
   u_op b a
   u_op b a
   u_op b a
   u_op b a
   u_skip b a
   u_op b a
   u_c az b a
   repeat (u_c aA b a)
   u_cond af b a
   u_c stepG_skip b a
   repeat (u_c aA b a)
   u_reg b a
   u_op b a
   u_op b a
   u_op b a
   u_op b a
   refine Goes.stop (λo k=>?_);replace a:=b a k;clear k;refine⟨rfl,rfl,λ⟨st,f⟩=>stepG_semacquire_wait rfl rfl rfl H.f_semacquire (x_semacquire_n L) (x_semacquire_b L) (x_semacquire_x L) (x_semacquire_f L) (by simp[Act.eval,smA]) f.cellSm,λr=>?_⟩;refine⟨_,(stepG_semacquire (n:=1) rfl rfl (by k_ne) rfl H.f_semacquire (x_semacquire_n L) (x_semacquire_b L) (x_semacquire_x L) (x_semacquire_f L) (by simp[Act.eval,smA]) r.cellSm (by k_ne) (r.thaw 1)).trans (by rfl),40,?_⟩;replace a:WgLive L.tWg Wg (o.setCell (smA Wg) (.int .u32 0)):=⟨_,_,r.setSm 0⟩
   clear r
   walk_nrm
   u_c az b a
   repeat (u_c aA b a)
   u_reg b a
   u_op b a
   u_op b a
   u_op b a
   u_call H.f_uLoad (nm_uLoad L) uLoadFn b a
   repeat (u_c aA b a)
   u_reg b a
   u_op b a
   u_c az b a
   repeat (u_c aA b a)
   u_reg b a
   u_op b a
   u_op b a
   u_op b a
   refine Goes.stop (λt i=>?_);replace a:=b a i;clear i;refine⟨rfl,λf=>⟨_,stepG_load_atomic (v:=0) rfl rfl (by k_ne) rfl H.f_loadU64 (x_loadU64_n L) (x_loadU64_b L) (x_loadU64_x L) .u64 (x_loadU64_f L) rfl f.cellSt,40,?_⟩⟩;clear f
   walk_nrm
   u_op b a
   u_c az b a
   u_c stepG_ret' b a
   u_leave1 H.f_uLoad b a
   u_op b a
   u_op b a
   u_c az b a
   repeat (u_c aA b a)
   u_cond ab b a
   repeat (u_c aA b a)
   u_reg b a
   refine Goes.stop (λd c=>?_);clear c;refine⟨rfl,_,λw=>stepG_mark0 .enable (by simp) rfl rfl (by k_ne) rfl H.f_enable (x_enable_n L) (x_enable_b L) (x_enable_x L) (x_enable_f L),λw a=>⟨20,?_⟩⟩
   walk_nrm
   u_c az b a
   repeat (u_c aA b a)
   u_reg b a
   u_op b a
   u_conv H.underlying_tWgP H.room_tWg (Go.ConcN.Gen.WgLive.cell0 a).choose_spec b a
   refine Goes.stop (λd c=>?_);clear c;refine⟨rfl,_,λw=>stepG_markAt .acquire (by simp) rfl rfl (by k_ne) rfl H.f_acquire (x_acquire_n L) (x_acquire_b L) (x_acquire_x L) (x_acquire_f L) (by simp[Act.eval,stA]),λw a=>⟨40,?_⟩⟩
   walk_nrm
   u_c az b a
   repeat (u_c aA b a)
   u_reg b a
   u_op b a
   u_c az b a
   repeat (u_c aA b a)
   u_cond af b a
   u_c stepG_skip b a
   u_c stepG_ret' b a
   u_leave0 H.f_wait b a
   grind[Goes.stop]
  .refine⟨_,stepG_cas_miss (v:=(v':Int)*KK) (old:=S) (n:=S+1) rfl rfl (by k_ne) rfl H.f_casU64 (x_casU64_n L) (x_casU64_b L) (x_casU64_x L) .u64 (x_casU64_f L) rfl rfl rfl f.cellSt (f.thaw 0) (by rw[<-l];simp only[KK];omega),30,?_⟩;clear f
   walk_nrm
   u_op b a
   u_c az b a
   u_c stepG_ret' b a
   u_leave1 H.f_uCas b a
   u_c az b a
   repeat (u_c aA b a)
   u_cond af b a
   u_c stepG_skip b a
   u_c stepG_inBlock b a
   u_c stepG_inLoop b a
   exact Goes.stop λ_ _=>⟨_,rfl,by simp,by simp⟩
end
section
open Go.Conc Go.Conc.Lib
open Go.ConcN (WgLive)
open Go.ConcR (KK WgAt stA smA rd wr mk DC0 Payload)
def fJ(ty:av)(Wg:Nat)(w w1:ay):Prop:=WgLive ty Wg w->WgLive ty Wg w1
def fJ.refl{ty:av}{Wg:Nat}(w:ay):fJ ty Wg w w:=id
def fJ.trans{ty:av}{Wg:Nat}{a b c:ay}(h:fJ ty Wg a b)(k:fJ ty Wg b c):fJ ty Wg a c:=λx=>k (h x)
def zk(R:ay->ay->Prop)(Stop:ar->ay->Prop)(g:ar)(w:ay):Prop:=∀w1,R w w1->Stop g w1
def Goes.FJ{P:aJ}{main:Bool}{R:ay->ay->Prop}{D:ay->ay->Array Event->Prop}{Stop:ar->ay->Prop}(hT:∀a b c,R a b->R b c->R a c):
  ∀{n:Nat} {g:ar} {w:ay},Goes P main R D Stop n g w->Goes P main R D (zk R Stop) n g w
 |0,g,w,h=>λw1 l w2 p=>h w2 (hT _ _ _ l p)
 |n+1,g,w,h=>by
  rcases h with h|⟨d,h⟩
  .exact .inl λw1 l w2 p=>h w2 (hT _ _ _ l p)
  .refine .inr ⟨d,λw1 l=>?_⟩;have p:=h w1 l;cases j:aG P main g w1 with
   |go g' w' es =>
    rw[j,goes_go]at p;rw[goes_go];exact⟨p.1,Goes.FJ hT p.2⟩
   |_=>rw[j]at p;exact p.elim
structure Apart(Wg:Nat)(F:St->Prop):Prop where
 rely:∀s s',F s->cw s s'->F s'
 heap:∀s,F s->∃σ,aE σ s
 free:∀s,F s->¬s.own Wg/\(∀L∈s.β,Wg∉L.bs)/\∀o,s.M Wg o=ae
section
variable {P:aJ}{L:WgLink}{Wg:Nat}{F:St->Prop}
def zQ(ty:av)(Wg:Nat)(F:St->Prop)(s:St):Prop:=F s/\WgLive ty Wg s.w
def Apart.RG(A:Apart Wg F){s:St}(h:F s):hI s:=(A.heap s h).choose_spec.mem
def Apart.set(A:Apart Wg F){s:St}(h:F s)(a:Addr)(x:a.block=Wg)(v:ai):cw s {s with w:=s.w.setCell a v}:=by
 obtain⟨l,p,y⟩:=A.free s h;have hk:∀b,b≠Wg->(s.w.setCell a v).heap[b]?=s.w.heap[b]?:=λb k=>by have:=(aside_setCell s.w a v).block b (by grind);exact this
 refine⟨rfl,rfl,rfl,Nat.le_of_eq (aside_setCell s.w a v).size.symm,λb k=>hk b ?_,λb o u j=>?_,(aside_setCell s.w a v).os,(aside_setCell s.w a v).tape,(aside_setCell s.w a v).output⟩
 .grind
 .have C:b≠Wg:=by grind
  show(s.w.setCell a v).cell? _=_;rw[km (hk b C) o];exact A.RG h b o u j
def Apart.next(A:Apart Wg F){ty:av}{s i:St}(h:zQ ty Wg F s)(r:(Cx.lead P ty Wg).rely s i):zQ ty Wg F i:=⟨A.rely s i h.1 r.1,r.2 h.2⟩
def Apart.here(A:Apart Wg F){ty:av}{s:St}(h:zQ ty Wg F s):(Cx.lead P ty Wg).rely s s:=⟨cw.xB (A.RG h.1),id⟩
def Apart.goes(A:Apart Wg F){ty:av}{S:ar->St->Prop}{Stop:ar->ay->Prop}(k:∀g s,zQ ty Wg F s->zk (fJ ty Wg) Stop g s.w->eE (Cx.lead P ty Wg) (Es Wg) S g s){n:Nat}{g:ar}{s:St}(d:zQ ty Wg F s)(h:Goes P ab (fJ ty Wg) DC0 Stop n g s.w):eE (Cx.lead P ty Wg) (Es Wg) S g s:=by refine eE.goes (X:=Cx.lead P ty Wg) (R:=fJ ty Wg) (D:=DC0) (Stop:=zk (fJ ty Wg) Stop) (zQ ty Wg F) (λs i hi f=>A.next hi f) (λs i _ f=>f.2) ?_ (λs hi=>A.here hi) k n g s d (Goes.FJ (λ_ _ _ l p=>l.trans p) h);rintro s es hi w' ⟨rfl,rfl⟩;exact⟨rfl,.inl (.quiet (A.heap s hi.1).choose_spec)⟩
end
set_option maxRecDepth 100000 in
def FK{P:aJ}{L:WgLink}(H:WgLib P L){Wg:Nat}:Frame.enter P L.add #[.pointer (aa ⟨Wg,0,ae⟩),.int .i64 1] .normal=(base L.add).at ⟨#[.pointer (aa ⟨Wg,0,ae⟩),.int .i64 1,ah,ah,ah,ah,ah,ah,ah,ah,ah,ah,ah,ah,ah,ah,ah,ah,ah,ah,ah,ah,ah,ah,ah,ah,ah,ah,ah,ah,ah,ah,ah,ah,ah,ah,ah,ah,ah,ah,ah,ah,ah,ah,ah,ah,ah,ah,ah,ah,ah,ah,ah,ah,ah,ah,ah,ah,ah,ah,ah,ah,ah,ah,ah,ah,ah,ah,ah,ah,ah,ah,ah,ah,ah,ah,ah,ah,ah,ah,ah,ah,ah,ah,ah,ah,ah,ah,ah,ah,ah,ah,ah,ah,ah,ah,ah,ah,ah,ah,ah,ah,ah,ah,ah,ah,ah,ah,ah,ah,ah,ah,ah,ah,ah,ah,ah],[]⟩ [.code (Go.ConcR.Gen.body_add L)] :=
 (enter_at (c:=Go.ConcR.Gen.body_add L) _ H.f_add (by kernel_rfl)).trans (by kernel_rfl)
set_option maxRecDepth 100000 in
def Dm{P:aJ}{L:WgLink}(H:WgLib P L){Wg:Nat}:Frame.enter P L.wait #[.pointer (aa ⟨Wg,0,ae⟩)] .normal=(base L.wait).at ⟨#[.pointer (aa ⟨Wg,0,ae⟩),ah,ah,ah,ah,ah,ah,ah,ah,ah,ah,ah,ah,ah,ah,ah,ah,ah,ah,ah,ah,ah,ah,ah,ah,ah,ah,ah,ah,ah,ah,ah,ah,ah,ah,ah,ah,ah,ah,ah,ah,ah,ah,ah,ah,ah,ah,ah,ah,ah,ah,ah,ah,ah,ah,ah,ah,ah,ah,ah,ah,ah,ah,ah,ah,ah,ah,ah,ah,ah,ah,ah,ah,ah,ah,ah,ah,ah,ah,ah,ah,ah,ah,ah],[]⟩ [.code (Go.ConcR.Gen.body_wait L)] :=
 (enter_at (c:=Go.ConcR.Gen.body_wait L) _ H.f_wait (by kernel_rfl)).trans (by kernel_rfl)
section
variable [Payload]{P:aJ}{L:WgLink}{Y:Lay}{F:St->Prop}{N n:Nat}{val:Nat->Nat->ai}
def ZM(H:WgLib P L)(A:Apart Y.Wg F){j:Nat}{Next:ar->St->Prop}{b₀:aX}{a₀:Act}{ops₀:Array aC}{i₀:Nat}{rest₀:List Nat}{k₀:List Item}{cs:List aX}(o:∀s,zQ L.tWg Y.Wg F s->eE (Cx.lead P L.tWg Y.Wg) (Es Y.Wg) (AtGo P L.tWg Y N val j Next) (G (b₀.at (a₀.put ((ops₀[i₀]?).bind (·.dst)) (.tuple #[])) (.inRegion ops₀ rest₀::k₀)) cs) s){s:St}(d:zQ L.tWg Y.Wg F s):
  eE (Cx.lead P L.tWg Y.Wg) (Es Y.Wg) (AtKdS P L.tWg Y N val j Next) (G (Frame.enter P L.add #[.pointer (aa ⟨Y.Wg,0,ae⟩),.int .i64 1] .normal) (b₀.at a₀ (.inRegion ops₀ (i₀::rest₀)::k₀)::cs)) s:=by
 have z:∀g s,zQ L.tWg Y.Wg F s->ZN P (fJ L.tWg Y.Wg) L Y.Wg (G (b₀.at (a₀.put ((ops₀[i₀]?).bind (·.dst)) (.tuple #[])) (.inRegion ops₀ rest₀::k₀)) cs) g s.w->eE (Cx.lead P L.tWg Y.Wg) (Es Y.Wg) (AtKeS P L.tWg Y N val j Next) g s:=by rintro g s d ⟨l,g',p,y⟩;refine⟨.leaf,l,g',p,λi f=>?_⟩;have a:=A.next d f;obtain⟨m,q⟩:=y i.w a.2;exact A.goes (λg s d h=>by obtain rfl:=h s.w (.refl _);grind) a q
 have k:∀g s,zQ L.tWg Y.Wg F s->zk (fJ L.tWg Y.Wg) (GA1 P (fJ L.tWg Y.Wg) L Y.Wg (G (b₀.at (a₀.put ((ops₀[i₀]?).bind (·.dst)) (.tuple #[])) (.inRegion ops₀ rest₀::k₀)) cs)) g s.w->eE (Cx.lead P L.tWg Y.Wg) (Es Y.Wg) (AtA1 P L.tWg Y N val j Next) g s:=by
  rintro g s d h;refine⟨.leaf,(h s.w (.refl _)).1,λi f v I t=>?_⟩;have a:=A.next d f;obtain⟨g',l,m,q⟩:=(h i.w f.2).2 v I t;have b:zQ L.tWg Y.Wg F {i with w:=i.w.setCell (stA Y.Wg) (.int .u64 ((v+1)*KK))}:=⟨A.rely _ _ a.1 (A.set a.1 _ rfl _),⟨_,_,t.setSt _⟩⟩;refine⟨g',l,A.goes (λg s d h=>?_) b q⟩
  rcases h s.w (.refl _)with h|h
  .obtain⟨l,g',ad,p,y,V⟩:=h;refine .step l λi f=>⟨g',i,_,y i.w,.inr ⟨rfl,ad,p,.inl rfl⟩,?_⟩
   have a:=A.next d f;obtain⟨m,q⟩:=V i.w a.2;exact A.goes (λg s d h=>z g s d (h s.w (.refl _))) a q
  grind
 have t:=PF (P:=P) (L:=L) H (R:=fJ L.tWg Y.Wg) (Wg:=Y.Wg) (λh r=>r h) (b₀:=b₀) (a₀:=a₀) (ops₀:=ops₀) (i₀:=i₀) (rest₀:=rest₀) (k₀:=k₀) (cs:=cs) s.w d.2;rw[FK H];refine A.goes (λg s d h=>?_) d t;obtain⟨l,g',p,y⟩:=h s.w (.refl _);refine⟨.leaf,l,g',p,λi f=>?_⟩;have a:=A.next d f;obtain⟨m,q⟩:=y i.w a.2;exact A.goes k a q
section
variable (P L Y F)
def TW(B g:ar)(s:St):Prop:=zQ L.tWg Y.Wg F s/\∃m,Goes P ab (fJ L.tWg Y.Wg) DC0 (λg _=>g=B) m g s.w
def HF(c:aX)(cs:List aX)(g:ar)(s:St):Prop:=zQ L.tWg Y.Wg F s/\∃m,Goes P ab (fJ L.tWg Y.Wg) DC0 (λg _=>Tx L Y.Wg c cs g) m g s.w
end
variable {b₀:aX}{a₀:Act}{ops₀:Array aC}{i₀:Nat}{rest₀:List Nat}{k₀:List Item}{cs:List aX}
omit [Payload]in
def Wl(H:WgLib P L)(A:Apart Y.Wg F){T J:ar->St->Prop}(K:∀g s,TW P L Y F (G (b₀.at (a₀.put ((ops₀[i₀]?).bind (·.dst)) (.tuple #[])) (.inRegion ops₀ rest₀::k₀)) cs) g s->T g s)(E:∀g s,HF P L Y F (b₀.at a₀ (.inRegion ops₀ (i₀::rest₀)::k₀)) cs g s->J g s){g:ar}{s:St}(h:HF P L Y F (b₀.at a₀ (.inRegion ops₀ (i₀::rest₀)::k₀)) cs g s):
  eE (Cx.lead P L.tWg Y.Wg) (Es Y.Wg) (AtW1 P L.tWg Y T J) g s:=by
 generalize hc:b₀.at a₀ (.inRegion ops₀ (i₀::rest₀)::k₀)=c at *;generalize Z:G (b₀.at (a₀.put ((ops₀[i₀]?).bind (·.dst)) (.tuple #[])) (.inRegion ops₀ rest₀::k₀)) cs=B at K;have O:∀g s,zQ L.tWg Y.Wg F s->zk (fJ L.tWg Y.Wg) (Wm P (fJ L.tWg Y.Wg) L Y.Wg B) g s.w->eE (Cx.lead P L.tWg Y.Wg) (Es Y.Wg) (AtAcq P L.tWg Y T) g s:=by intro g s d h;obtain⟨l,g',p,y⟩:=h s.w (.refl _);exact⟨.leaf,l,g',p,λi f=>K _ _ ⟨A.next d f,y i.w (A.next d f).2⟩⟩
 have z:∀g s,zQ L.tWg Y.Wg F s->zk (fJ L.tWg Y.Wg) (ZO P (fJ L.tWg Y.Wg) L Y.Wg B) g s.w->eE (Cx.lead P L.tWg Y.Wg) (Es Y.Wg) (AtKe P L.tWg Y T) g s:=by intro g s d h;obtain⟨l,g',p,y⟩:=h s.w (.refl _);refine⟨.leaf,l,g',p,λi f=>?_⟩;obtain⟨m,q⟩:=y i.w (A.next d f).2;exact A.goes O (A.next d f) q
 have Q:∀g s,zQ L.tWg Y.Wg F s->zk (fJ L.tWg Y.Wg) (HW4 P (fJ L.tWg Y.Wg) L Y.Wg B) g s.w->eE (Cx.lead P L.tWg Y.Wg) (Es Y.Wg) (AtW4 P L.tWg Y T) g s:=by intro g s d h;refine⟨.leaf,(h s.w (.refl _)).1,λi f t=>?_⟩;obtain⟨g',l,m,q⟩:=(h i.w f.2).2 t;exact⟨g',l,A.goes z (A.next d f) q⟩
 have gW3:∀g s,zQ L.tWg Y.Wg F s->zk (fJ L.tWg Y.Wg) (HW3 P (fJ L.tWg Y.Wg) L Y.Wg B) g s.w->eE (Cx.lead P L.tWg Y.Wg) (Es Y.Wg) (AtW3 P L.tWg Y T) g s:=by intro g s d h;refine⟨.leaf,(h s.w (.refl _)).1,(h s.w (.refl _)).2.1,λi f=>⟨(h i.w f.2).2.2.1,λt=>?_⟩⟩;obtain⟨g',l,m,q⟩:=(h i.w f.2).2.2.2 t;exact⟨g',l,A.goes Q (s:={i with w:=i.w.setCell (smA Y.Wg) (.int .u32 0)}) ⟨A.rely _ _ (A.next d f).1 (A.set (A.next d f).1 _ rfl _),⟨_,_,t.setSm 0⟩⟩ q⟩
 have U:∀g s,zQ L.tWg Y.Wg F s->zk (fJ L.tWg Y.Wg) (HWr P (fJ L.tWg Y.Wg) L Y.Wg B) g s.w->eE (Cx.lead P L.tWg Y.Wg) (Es Y.Wg) (AtW3 P L.tWg Y T) g s:=by
  intro g s d h;obtain⟨l,g',ad,p,y,V⟩:=h s.w (.refl _);refine .step l λi f=>⟨g',i,_,y i.w,.inr ⟨rfl,ad,p,.inr rfl⟩,?_⟩
  obtain⟨m,q⟩:=V i.w (A.next d f).2;exact A.goes gW3 (A.next d f) q
 have W:∀(v:Nat) g s,zQ L.tWg Y.Wg F s->zk (fJ L.tWg Y.Wg) (HW2 P (fJ L.tWg Y.Wg) L Y.Wg B (Tx L Y.Wg c cs) v) g s.w->eE (Cx.lead P L.tWg Y.Wg) (Es Y.Wg) (AtW2 P L.tWg Y T J v) g s:=by
  intro vs g s d h;refine⟨.leaf,(h s.w (.refl _)).1,λi f v I t=>⟨λe=>?_,λe=>?_⟩⟩
  .obtain⟨g',l,m,q⟩:=((h i.w f.2).2 v I t).1 e;exact⟨g',l,A.goes U (s:={i with w:=i.w.setCell (stA Y.Wg) (.int .u64 (v*KK+1))}) ⟨A.rely _ _ (A.next d f).1 (A.set (A.next d f).1 _ rfl _),⟨_,_,t.setSt _⟩⟩ q⟩
  .obtain⟨g',l,m,q⟩:=((h i.w f.2).2 v I t).2 e;exact⟨g',l,E _ _ ⟨A.next d f,m,q⟩⟩
 obtain⟨d,m,q⟩:=h;refine A.goes (λg s d h=>?_) d q;obtain⟨m,t⟩:=FL (P:=P) (L:=L) H (R:=fJ L.tWg Y.Wg) (Wg:=Y.Wg) (λh r=>r h) (b₀:=b₀) (a₀:=a₀) (ops₀:=ops₀) (i₀:=i₀) (rest₀:=rest₀) (k₀:=k₀) (cs:=cs) g (by rw[hc];exact h s.w (.refl _)) s.w d.2;rw[hc,Z]at t;refine A.goes (λg s d h=>?_) d t;refine⟨.leaf,(h s.w (.refl _)).1,λi f v I t=>?_⟩;obtain⟨g',l,p,y⟩:=(h i.w f.2).2 v I t;refine⟨g',l,λh0=>?_,λC=>?_⟩
 .obtain⟨m,q⟩:=p h0;exact A.goes z (A.next d f) q
 .obtain⟨m,q⟩:=y C;exact A.goes (W v) (A.next d f) q
omit [Payload]in
def Wn(H:WgLib P L)(A:Apart Y.Wg F){c:aX}{J:ar->St->Prop}(E:∀g s,HF P L Y F c cs g s->J g s){s:St}(d:zQ L.tWg Y.Wg F s):
  eE (Cx.lead P L.tWg Y.Wg) (Es Y.Wg) (AtKd P L.tWg Y J) (G (Frame.enter P L.wait #[.pointer (aa ⟨Y.Wg,0,ae⟩)] .normal) (c::cs)) s:=by have t:=FM (P:=P) (L:=L) H (R:=fJ L.tWg Y.Wg) (Wg:=Y.Wg) (λh r=>r h) (c:=c) (cs:=cs) s.w d.2;rw[Dm H];refine A.goes (λg s d h=>?_) d t;obtain⟨l,g',p,y⟩:=h s.w (.refl _);exact⟨.leaf,l,g',p,λi f=>E _ _ ⟨A.next d f,y i.w (A.next d f).2⟩⟩
end
end
section
open Go.Conc Go.RowKit Go.Conc.Lib Go.ConcR.Gen
open Go.ConcN (WgLive Has RW DWs AtR0 EvW)
open Go.ConcN.Gen
open Go.ConcR (KK WgAt stA smA rd wr mk DC0 Payload)
section
variable {R:ay->ay->Prop}{D:ay->ay->Array Event->Prop}{Stop A:ar->ay->Prop}
def Goes.never(b:∀w,R w w)(f:∀g w,Stop g w->∃g' e,aG P af g w=.go g' w #[e])(d:∀n g w,A g w->¬Goes P af R D Stop n g w):
  ∀(m n:Nat) (g:ar) (w:ay),Goes P af R DC0 A m g w->¬Goes P af R D Stop n g w
 |0,n,g,w,h,k=>d n g w (h w (b w)) k
 |m+1,n,g,w,h,k=>by
  rcases h with h|⟨_,h⟩
  .grind
  .have h1:=h w (b w);cases a:aG P af g w with
   |go g' w' es =>
    rw[a,goes_go]at h1;obtain⟨⟨rfl,rfl⟩,h2⟩:=h1;have no:¬Stop g w':=λi=>by grind
    cases n with
    |zero=>exact no (k w' (b w'))
    |succ n =>
     rcases k with k|⟨_,k⟩
     .grind
     .have k1:=k w' (b w');rw[a,goes_go]at k1;exact Goes.never b f d m n g' w' h2 k1.2
   |_=>rw[a]at h1;exact h1.elim
def Goes.meet(b:∀w,R w w)(i:∀g w,Stop g w->∃g' e,aG P af g w=.go g' w #[e])(d:∀n g w,A g w->Goes P af R D Stop n g w->∀w1,R w w1->Stop g w1):
  ∀(m n:Nat) (g:ar) (w:ay),Goes P af R DC0 A m g w->Goes P af R D Stop n g w->Goes P af R DC0 Stop m g w
 |0,n,g,w,h,k=>d n g w (h w (b w)) k
 |m+1,n,g,w,h,k=>by
  rcases h with h|⟨f,h⟩
  .exact .inl (d n g w (h w (b w)) k)
  .refine .inr ⟨f,λw1 hr=>?_⟩;have h1:=h w1 hr;cases a:aG P af g w1 with
   |go g' w' es =>
    rw[a,goes_go]at h1;rw[goes_go];obtain⟨⟨rfl,rfl⟩,h2⟩:=h1;have no:¬Stop g w':=λf=>by grind
    refine⟨⟨rfl,rfl⟩,?_⟩;cases n with
    |zero=>exact absurd (k w' hr) no
    |succ n =>
     rcases k with k|⟨_,k⟩
     .grind
     .have k1:=k w' hr;rw[a,goes_go]at k1;exact Goes.meet b i d m n g' w' h2 k1.2
   |_=>rw[a]at h1;exact h1.elim
end
variable [Payload]{L:WgLink}{Wg C Low x:Nat}{val:ai}{c:aX}
def StK(P:aJ)(g:ar)(_:ay):Prop:=∃a,∀w,aG P af g w=.go a w #[mk .disable]
def StR(P:aJ)(L:WgLink)(Wg C n Low x:Nat)(val:ai)(g:ar)(w:ay):Prop :=
 (WgLive L.tWg Wg w/\Has C (x-1) val w)/\∃a,(∀w,aG P af g w=.go a w #[mk (.releaseMerge (stA Wg))])/\∀w,WgLive L.tWg Wg w/\Has C (x-1) val w->∃m,Goes P af (RW L.tWg Wg C n Low (x-1)) DC0 (StK P) m a w
set_option maxRecDepth 100000 in
def Ol(H:WgLib P L)(w:ay)(a:WgLive L.tWg Wg w/\Has C (x-1) val w):
  Goes P af (RW L.tWg Wg C n Low (x-1)) DC0 (StR P L Wg C n Low x val) 23 (G ((baseD L.done).at ⟨#[.pointer (aa ⟨Wg,0,ae⟩),ah,ah,ah],[]⟩ [.code (body_done L)]) (c::cs)) w:=by
 lib_facts
 simp only[body_done,body_add,doneFn,addFn,gv]
 u_reg kn_rely a
 u_op kn_rely a
 u_in kn_rely a
 refine goes_call rfl rfl (by k_ne) rfl H.f_add (nm_add L) rfl ⟨by u_nil,?_⟩
 walk_nrmf addFn
 repeat (u_c aA kn_rely a)
 u_cond ab kn_rely a
 repeat (u_c aA kn_rely a)
 u_reg kn_rely a
 u_op kn_rely a
 u_op kn_rely a
 u_c az kn_rely a
 repeat (u_c aA kn_rely a)
 u_cond ab kn_rely a
 u_reg kn_rely a
 u_op kn_rely a
 u_conv H.underlying_tWgP H.room_tWg (Go.ConcN.Gen.WgLive.cell0 a.1).choose_spec kn_rely a
 refine Goes.stop (λd b=>?_);replace a:=kn_rely a b;clear b;refine⟨a,_,λw=>stepG_markAt .releaseMerge (by simp) rfl rfl (by k_ne) rfl H.f_relMerge (x_relMerge_n L) (x_relMerge_b L) (x_relMerge_x L) (x_relMerge_f L) (by simp[Act.eval,stA]),λw a=>⟨10,?_⟩⟩
 walk_nrm
 u_c az kn_rely a
 repeat (u_c aA kn_rely a)
 u_reg kn_rely a
 exact Goes.stop λd b=>⟨_,λw=>stepG_mark0 .disable (by simp) rfl rfl (by k_ne) rfl H.f_disable (x_disable_n L) (x_disable_b L) (x_disable_x L) (x_disable_f L)⟩
def WA(H:WgLib P L){y:Nat}(f:c.mode=.returning)(hT:QuitsD P y 0 (G c cs))(w:ay)(d:WgLive L.tWg Wg w/\Has C (x-1) val w):
  Goes P af (RW L.tWg Wg C n Low (x-1)) DC0 (AtR0 P L.tWg Wg C n Low x val) 23 (G ((baseD L.done).at ⟨#[.pointer (aa ⟨Wg,0,ae⟩),ah,ah,ah],[]⟩ [.code (body_done L)]) (c::cs)) w:=by
 have p:=doneN (Own:=λ_ _=>False) (Rd:=λ_ _=>False) (Low:=Low) (n:=n) H f hT w d;have i:∀g w,AtR0 P L.tWg Wg C n Low x val g w->∃g' e,aG P af g w=.go g' w #[e]:=λg w h=>by obtain⟨_,_,g',B,_⟩:=h;grind
 have z:(mk (.releaseMerge (stA Wg)):Event)≠mk .disable:=by simp[mk]
 refine Goes.meet (λw=>.refl w) i ?_ _ _ _ _ (Ol H w d) p;intro o g w h k w1 hr;obtain⟨d,t,B,r⟩:=h;have a:AtR0 P L.tWg Wg C n Low x val g w1∨∃l,Goes P af (RW L.tWg Wg C n Low (x-1)) (DWs Wg (λ_ _=>False) (λ_ _=>False) C n x) (AtR0 P L.tWg Wg C n Low x val) l t w1:=by
  cases o with
  |zero=>exact .inl (k w1 hr)
  |succ o =>
   rcases k with k|⟨_,k⟩
   .grind
   grind[goes_go]
 rcases a with h|⟨l,h⟩
 .exact h
 .exfalso;obtain⟨m,q⟩:=r w1 (kn_rely d hr);refine Goes.never (λw=>.refl w) i ?_ _ _ _ _ q h;rintro j v w4 ⟨E,s⟩ k;have b:∀w,¬AtR0 P L.tWg Wg C n Low x val v w:=λw u=>by obtain⟨_,_,I,F,_⟩:=u;grind
  cases j with
  |zero=>exact b w4 (k w4 (.refl w4))
  |succ j =>
   rcases k with k|⟨_,k⟩
   .exact b w4 (k w4 (.refl w4))
   .have k1:=k w4 (.refl w4);rw[s w4,goes_go]at k1;have:=(k1.1.2 _ (Array.mem_singleton.2 rfl)).2.1;exact this rfl
end
section
open Go.RowKit
open Go.Conc (G solo crowd AtRel Past EvL Leavers)
def St.top(w:ay):St:={β:=[],M:=λb o=>w.cell? ⟨b,o,ae⟩,w:=w,own:=λb=>b<w.heap.size}
def aE.top(w:ay):aE [] (St.top w):=⟨λ_ _ _ h=>h,rfl,by simp,by simp[St.top],by simp[St.top],λb a=>⟨a,by simp[St.top]⟩⟩
def Tu{f:aH}{c:aX}(h:vN P f c v s)(hi:P.inits.idxOf? f=ae)(w:ay)(i:∀b o u,s.M b o=aa u->w.cell? ⟨b,o,ae⟩=aa u):∃es,aG P ab (G c []) w=.ended (.done v) w es/\∀e∈es,∃b o u,e=⟨.cell ⟨b,o,ae⟩,af,af⟩/\s.M b o=aa u:=by
 obtain⟨fn,j,a⟩:=h.fn;obtain⟨l,g⟩:=a w i;refine⟨seen P c.fn ((results fn c.tmps).events P w #[]),?_,λe k=>g e (Go.Conc.mem_seen k)⟩;have d:P.inits.idxOf? c.fn=ae:=by rw[h.isF];exact hi
 simp[G,aG,unwind,doReturn,h.mode,h.defers,h.kind,j,l,d,GStep.after]
abbrev Gl:=Nat×av×ai
abbrev PE(gs:List Gl):List bg:=gs.map λx=>.cj (dZ x.1 x.2.1 x.2.2)
def St.rD(gs:List Gl)(w:ay):St:={β:=gs.map λx=>⟨.pointer (aa ⟨x.1,0,ae⟩),[x.1]⟩,M:=λb o=>if b∈gs.map (·.1)then ae else w.cell? ⟨b,o,ae⟩,w:=w,own:=λb=>b<w.heap.size/\b∉gs.map (·.1)}
def aE.rD{gs:List Gl}{w:ay}(n:(gs.map (·.1)).Nodup)(m:∀x∈gs,w.heap[x.1]?=aa (.cells #[x.2.2] x.2.1 (0,0))):aE (PE gs) (St.rD gs w):=by
 have k:∀x∈gs,x.1<w.heap.size:=λx g=>(iJ.1 (m x g)).1;have d:∀(l:Nat) (L:Loc),(St.rD gs w).β[l]?=aa L->∃x,gs[l]?=aa x/\L=⟨.pointer (aa ⟨x.1,0,ae⟩),[x.1]⟩:=λl L h=>by simp only[St.rD,nA,rU]at h;grind
 refine⟨λb o v i=>?_,by simp[St.rD],λl B L hB hl=>?_,λl l' L L' h1 h2 b a f=>?_,λL h b a=>?_,λb a=>⟨a.1,λL h c=>?_⟩⟩
 .simp only[St.rD]at i;split at i
  .cases i
  .exact i
 .obtain⟨x,h1,rfl⟩:=d l L hl;simp only[PE,nA,h1,l5,dn]at hB;subst hB;have g:=bP h1;refine⟨λb=>if b=x.1 then aa (.cells #[x.2.2] x.2.1 (0,0))else ae,⟨rfl,bo rfl,λb a=>aY a⟩,λb o a=>?_,λb=>?_,λb a o=>?_⟩
  .simp only at a;split at a
   .rename_i e;cases a;rw[e];exact m x g
   grind
  .by_cases e:b=x.1<;>simp[e]
  .rw[fO]at a;subst a;exact bo (gQ.2 ⟨x,g,rfl⟩)
 .obtain⟨x,j,rfl⟩:=d l L h1;obtain⟨y,p,rfl⟩:=d l' L' h2;rw[fO]at a f;have e:x.1=y.1:=a.symm.trans f;have a1:(gs.map (·.1))[l]?=aa x.1:=by grind
  have a2:(gs.map (·.1))[l']?=aa x.1:=by grind
  grind[List.getElem?_inj]
 .obtain⟨l,hl⟩:=AH h;obtain⟨x,j,rfl⟩:=d l L hl;rw[fO]at a;subst a;exact k x (bP j)
 .obtain⟨l,hl⟩:=AH h;obtain⟨x,j,rfl⟩:=d l L hl;rw[fO]at c;subst c;exact a.2 (gQ.2 ⟨x,bP j,rfl⟩)
def aE.ZJ{gs:List Gl}(h:aE (PE gs) s){x:Gl}(b:x∈gs):s.w.heap[x.1]?=aa (.cells #[x.2.2] x.2.1 (0,0)):=by
 obtain⟨l,hl⟩:=AH b;have hB:(PE gs)[l]?=aa (.cj (dZ x.1 x.2.1 x.2.2)):=by grind
 have a:l<s.β.length:=by rw[h.len];grind
 obtain⟨ch,⟨_,h2,_⟩,c,_⟩:=h.box l _ _ hB (bn a);grind
def ek.LB{f:aH}{args:List D}{gs:List Gl}(h:ek (Cx.beside P) f args (PE gs) res (λ_=>PE gs))(hi:P.inits.idxOf? f=ae)(z:(gs.map (·.1)).Nodup)(t:∀x∈gs,w.heap[x.1]?=aa (.cells #[x.2.2] x.2.1 (0,0)))(T:cp (PE gs) (St.rD gs w) vs args){Post:ai->ay->Prop}(H:∀i v s',du (PE gs) s' v (res i)->Below w.heap.size w s'.w->∀d,Post v (s'.w.at d)):
  ∃M last o w' t',runNT P (M+1) (solo (G (Frame.enter P f vs.toArray .normal) []) w) #[]=(.ended o w',t')/\runN P M (solo (G (Frame.enter P f vs.toArray .normal) []) w)=.next last /\
   step P last=.ended o w'/\Go.Conc.Good P Post last o w' t':=by
 have c:=aE.rD z t;have key:=h.2 (St.rD gs w) vs T c (λg s'=>∃i v fr,g=G fr []/\vN P f fr v s'/\du (PE gs) s' v (res i)/\Below w.heap.size w s'.w) []
  (λi fr v s' h1 h2 h3 h4=>.stop ⟨i,v,fr,rfl,h1,h2,⟨h4.os,h4.tape,h4.output,h4.size,λk hk=>by
   by_cases e:k∈gs.map (·.1)
   .obtain⟨x,y,rfl⟩:=gQ.1 e;rw[h3.ZJ y,t x y]
   .exact h4.fA k ⟨hk,e⟩⟩⟩)
 have I:AM.mr (λ_=>False)=λ_=>False:=by funext l;cases l<;>rfl
 obtain⟨N,s,r,g',s',m,t',U,h1,h2,h3,h4,O,J,W,⟨i,v,fr,rfl,k1,C,Q⟩⟩:=key.beside (λ_=>False) #[G (Frame.enter P f vs.toArray .normal) []] ae #[] (λ_=>0) c.mem rfl (Go.Conc.leavers_one P _)
  (by rw[I];exact Go.Conc.past_nil.mono (jc _)) ⟨λ_ h=>h.elim,λ_ h=>h.elim,λ_ h=>h.elim,λ_ h=>h.elim⟩ (λa=>by intro i hi;simp[Trace.act?]at hi)
 have j:=Go.Conc.beside_ends (P:=P) (Shun:=AM.mr s) (B:=s'.w.heap.size) (D:=λ_ _ _=>False) (Post:=Post) (λ_ _ _ h=>h.elim) (sl:=m) (n:=0) h3 h4 O (Go.Conc.Goes.stop λw1 Sw=>by
  obtain⟨d,rfl⟩:=Sw;obtain⟨es,e1,e2⟩:=Tu k1 hi (s'.w.at d) (λb o u q=>h2 b o u q);refine⟨rfl,v,es,e1,λe R=>?_,H i v s' C Q d⟩;obtain⟨b,o,u,rfl,q⟩:=e2 e R;refine Go.Conc.evL_cell _ _ (λS=>?_) (hI.lt h2 q);have:=J.M b S o
  grind)
 obtain⟨p,last,o,w',A,F,V,E,L⟩:=j;refine⟨N+p,last,o,w',A,?_,?_,E,L⟩
 .rw[show N+p+1=N+(p+1) by omega];exact(runNT_add N (p+1) h1).trans F
 .have e:=runNT_fst P N (crowd #[G (Frame.enter P f vs.toArray .normal) []] w ae) #[];have K:(runNT P N (crowd #[G (Frame.enter P f vs.toArray .normal) []] w ae) #[]).1=.next (crowd r s'.w m):=by have:runNT P N (crowd #[G (Frame.enter P f vs.toArray .normal) []] w ae) #[]=_:=h1;grind
  grind[Go.Conc.solo_eq_crowd,runN_add]
def Rd.rD{gs:List Gl}{w:ay}(r:∀x∈gs,w.heap[x.1]?=aa (.cells #[x.2.2] x.2.1 (0,0)))(hi:∀x∈gs,∃T u,x.2.2=.iface T u){v:ai}{t:Bool}{k n:Nat}{es:Nat->List C}(f:∀(i j:Nat)(c:C),(es i)[j]?=aa c->∃kd m,c=C.int kd m)(h:Rd (St.top w).M v (.sl t k n es)):Rd (St.rD gs w).M v (.sl af k n es):=by
 obtain⟨a,cap,b,off,rfl,h1,h2,o,s,p⟩:=h.FG;refine .Tk h1 h2 o s λi g j c hj=>?_;obtain⟨u,d,q2⟩:=p i g j c hj;obtain⟨kd,m,rfl⟩:=f i j c hj;cases q2 with
 |int hr =>
  refine⟨_,?_,.int hr⟩;have d:w.cell? ⟨b,off+i*k+j,ae⟩=aa (.int kd m):=d;show(if b∈gs.map (·.1)then ae else w.cell? _)=_;rw[aY,d];intro q;obtain⟨x,l,rfl⟩:=gQ.1 q;obtain⟨T,u,e⟩:=hi x l;simp only[aP,r x l,e]at d;grind
end
section
open Go.ChangeShapes Go.WideShapes Go.ChangeAt Go.RowKit
def o8{H:Type}{enc:av×ai->H}{a:Assume}{C:Checked}{os:Os}{f:aH}{fn:Func}{s:ChangeSpec}{d:List PathCond}{apart fresh handsOn again:Bool}{X:ay->Array ai->Prop}(J:∀(w w':ay) (args:Array ai),w.heap=w'.heap->X w args->X w' args)(own:ownKnob C.prog.godebug=ae)(h:os.Started)(y:C.prog.funcs[f]?=aa fn)(g:∃(w:ay) (b:Tape) (i:Input),w.os=os/\(w.forCall b i).Shaped C.prog/\i.vars=[]/\Input.okWide C.prog (w.forCall b i) .any w.heap.size f i /\
   ((s.pre enc C.prog fn d apart (w.forCall b i).memory i.args/\X (w.forCall b i).memory i.args)/\sizedMet enc C.prog fn (OpenSpec.ofChange s) apart (w.forCall b i).memory i.args)/\a.holds C.prog (lone (Frame.enter C.prog f i.args .normal) [] (w.forCall b i)))(m:∀(W:ay) (base:Nat) (args:Array ai) (ds gs:List (DataW H)) (c:List MemPlace),
   (∀(j:Nat) t v,fn.params[j]?=aa t->args[j]?=aa v->Value.okWide C.prog W .any base t v) ->
   DataW.Whole enc C.prog fn.params.toList s.vars apart W args.toList ds gs c->W.ShapedOpen C.prog->X W args ->
   ∃M last o w' t',runNT C.prog (M+1) (Conc.solo (Conc.G (Frame.enter C.prog f args .normal) []) W) #[]=(.ended o w',t')/\runN C.prog M (Conc.solo (Conc.G (Frame.enter C.prog f args .normal) []) W)=.next last /\
    step C.prog last=.ended o w'/\Conc.Good C.prog (λv I=>s.post enc C.prog fn apart fresh handsOn again W args v I) last o w' t'):
  ReturnsInLeavingWide a C os f .any (λw args=>(s.pre enc C.prog fn d apart w args/\X w args)/\sizedMet enc C.prog fn (OpenSpec.ofChange s) apart w args) (s.post enc C.prog fn apart fresh handsOn again):=by refine returnsInLeavingWide_of_good own h g ?_;intro w b i _ q _ r n p;obtain⟨_,_,_,x,k,_,_,_,_,l⟩:=r;have e:x=fn:=l4 (k.symm.trans y);subst e;obtain⟨⟨⟨ds,gs,c,F,L⟩,D⟩,N⟩:=n;have u:=DataW.Whole.of_heap (w':=w.forCall b i) (by rfl) F;obtain⟨M,last,o,w',t',K,B,z,E⟩:=m (w.forCall b i) w.heap.size i.args ds gs c l u q (J (w.forCall b i).memory (w.forCall b i) i.args rfl D);exact⟨M,last,o,w',t',K,B,z,E.mono λv A=>ChangeSpec.post_blind A⟩
def uP(l:Looks){p:Pinned}{s:OpenSpec}{c:OpenClaim}(n:List (List PathCond))(kinds:List LaidKind)(a:Bool)(b:Bool×String)(d:Bool)(z:c.holds p s)(m:∀D∈n,(c.withDomain D).holds p s)(x:c.wfByText s=ab)(i:∀D∈n,(c.withDomain D).wfByText s=ab)(g:c.laidByTextAt l p kinds a)(k:c.start=.entering)(e:c.noBlocks=af/\c.again=af)(o:p.checked.prog.mainIs=aa (b.1,b.2.toList))(w:(!b.1&&b.2.isEmpty&&!d)=af)(v:∀f fn,p.checked.prog.funcNamed c.func=aa f->p.checked.prog.funcs[f]?=aa fn->d=p.checked.prog.looks []/\∀(j:Nat) t,fn.params[j]?=aa t->p.checked.prog.wantsStandIn t=af)(y:ab=c.goesBy p.checked.prog):
  Claim7.holds p (.plain s) {stood:={row:=c,standIns:=[],harness:=b,looks:=d},kinds:=[],alts:=n,goes:=ab,laidByText:=ab,laidKinds:=kinds,laidTests:=a,laidLooks:=l}:=by
 have q:∀r:OpenClaim,Claim7.isSixth {stood:={row:=r,standIns:=[],harness:=b,looks:=d},kinds:=[]}=af:=λr=>by simpa[Claim7.isSixth]using w
 refine⟨Claim7.tied_new_at l kinds a (Claim7.new_of_sixth z b d k e o (q c) v) x,λD u=>?_,g,(λh=>by cases h),y⟩;exact Claim7.tied_new_at l kinds a (Claim7.new_of_sixth (m D u) b d k e o (q _) v) (i D u)
end
namespace R1
section
variable {X:Cx ag}
def c58:dJ:=λargs σ=>match args,σ with
 |[.e (.one (.c (.str b)))],[]=>aa (dB (dO b),[],[])
 |_,_=>ae
def t58:eh X 58 c58:=by intro args σ res σ' obs h _;unfold c58 at h;grind[Jz]
def Ym:dJ:=λargs σ=>match args,σ with
 |[.e (.one (.c (.str b)))],[]=>aa (dB (ez b),[],[])
 |_,_=>ae
def t59:eh X 59 Ym:=by intro args σ res σ' obs h _;unfold Ym at h;grind[JA]
def c60:dJ:=λargs σ=>match args,σ with
 |[.e (.one (.c (.str a))),.e (.one (.c (.str b)))],[]=>aa (dB (clash a b),[],[a≠[],b≠[]])
 |_,_=>ae
def t60:eh X 60 c60:=by
 intro args σ res σ' obs h a;unfold c60 at h;split at h
 .cases h;exact M8 _ _ a.1 a.2
 grind
def ct2:List (Nat×dJ):=(58,c58)::(59,Ym)::(60,c60)::ct1
def uX:bH X ct2:=bH.cons t58 (bH.cons t59 (bH.cons t60 Em))
def fG(t:List bw)(i:Nat):Bs:=(t.getD i ([],[])).1
def uc(t:List bw)(i:Nat):Bs:=(t.getD i ([],[])).2
def g7(t:List bw)(i:Nat):(t.getD i cF.b8).1=fG t i:=rfl
def qq(t:List bw)(i:Nat):(t.getD i cF.b8).2=uc t i:=rfl
def g6(t:List bw)(i:Nat):Bool:=dO (fG t i)&&ez (uc t i)&&(i==0||bq (fG t (i-1)) (fG t i))&&(bc i).all λj=>!clash (fG t j) (fG t i)
def cA(t:List bw):Bool:=(bc t.length).all (g6 t)&&decide (t.length<=6)
def dy{p:Nat->Bool}:(bc n).all p=ab↔∀i,i<n->p i=ab:=by grind
def rv{s:Bs}(h:dO s=ab):s≠[]:=by rintro rfl;simp[dO]at h
def md{t:List bw}(hi:i<t.length)(h:g6 t i=af):cA t=af:=by
 cases a:cA t with
 |false=>rfl
 |true =>
  simp only[cA,bM]at a;grind
def z0(t:List bw):Ev X 23 [cF.sl t] [] (dB (cA t)) []:=by
 refine Ev.bQ Tryz.func23 rfl λu=>?_;have q:=u.sl 0 rfl;refine ck uX rfl ak ?_;refine AK.xJ (λi=>i<=t.length/\∀j,j<i->g6 t j=ab) (λi:Nat=>[(0,cF.sl t),(3,dI i)]) (λ_=>[]) (λi=>t.length-i) 0 rfl (by simp[cE]) ⟨by omega,by omega⟩ rfl ?_;rintro i ⟨hi,l⟩;by_cases h:i<t.length
 .by_cases b:dO (fG t i)=ab
  .by_cases c:ez (uc t i)=ab
   .by_cases n:i=0∨bq (fG t (i-1)) (fG t i)=ab
    .apply AK.join [(0,cF.sl t),(3,dI i),(4,dI 0)] []
     .intro hk;by_cases d:i=0
      .refine aU uX [(8,ab),(16,ab),(24,ab),(29,af)] rfl ?_ (hk _ _ rfl ?_)
       .simp[-aj,h,g7,qq,b,c];omega
       .simp[cE]
      .have g:=n.resolve_left d;have f:bE .i64 ((i:Int)-1):=by simp only[bE];omega
       have m:((i:Int)-1).toNat=i-1:=by omega
       refine aU uX [(8,ab),(16,ab),(24,ab),(29,ab),(42,af)] rfl ?_ (hk _ _ rfl ?_)
       .simp[-aj,h,g7,qq,b,c,g,f,m];omega
       .simp[cE]
     ·
      have p:g6 t i=(bc i).all (λj=>!clash (fG t j) (fG t i)):=by
       rcases n with rfl|g
       .simp[g6,b,c]
       .simp[g6,b,c,g]
      refine AK.xJ (λj=>j<=i/\∀o,o<j->clash (fG t o) (fG t i)=af) (λj:Nat=>[(0,cF.sl t),(3,dI i),(4,dI j)]) (λ_=>[]) (λj=>i-j) 0 rfl (by simp[cE]) ⟨by omega,by omega⟩ rfl ?_;rintro j ⟨v,s⟩;by_cases a:j<i
      .have k:dO (fG t j)=ab:=by have:=l j a;simp only[g6,bM]at this;exact this.1.1.1
       cases r:clash (fG t j) (fG t i)with
       |true =>
        refine aU uX [(47,ab),(60,ab)] rfl ?_ (AK.iC (AK.tw (cz.zero rfl ?_)))
        .simp[-aj,h,a,g7,r,rv b,rv k];omega
        .have:g6 t i=af:=by grind
         simp[md h this]
       |false =>
        refine aU uX [(47,ab),(60,af)] rfl ?_ (AK.again (j+1) rfl ?_ ?_ ?_ rfl)
        .simp[-aj,h,a,g7,r,rv b,rv k,bE];omega
        .simp[cE]
        .grind
        .omega
      .have a:j=i:=by omega
       subst a;refine aU uX [(47,af)] rfl (by simp) (AK.leave rfl rfl ?_);refine ck uX rfl ?_ (AK.again (j+1) rfl ?_ ?_ ?_ rfl)
       .simp[bE];omega
       .simp[cE]
       .grind
       .omega
    .have d:i≠0:=λe=>n (.inl e);have g:bq (fG t (i-1)) (fG t i)=af:=by grind
     have f:bE .i64 ((i:Int)-1):=by simp only[bE];omega
     have m:((i:Int)-1).toNat=i-1:=by omega
     refine aU uX [(8,ab),(16,ab),(24,ab),(29,ab),(42,ab)] rfl ?_ (AK.iC (cz.zero rfl ?_))
     .simp[-aj,h,g7,qq,b,c,g,f,m];omega
     .simp[au,md h (by simp[g6,d,g])]
   .refine aU uX [(8,ab),(16,ab),(24,af)] rfl ?_ (AK.iC (cz.zero rfl ?_))
    .simp[-aj,h,g7,qq,b,c]
    .simp[au,md h (by simp[g6,c])]
  .refine aU uX [(8,ab),(16,af)] rfl ?_ (AK.iC (cz.zero rfl ?_))
   .simp[-aj,h,g7,b]
   .simp[au,md h (by simp[g6,b])]
 .refine aU uX [(8,af)] rfl (by simp;omega) (AK.leave rfl rfl ?_);refine ck uX rfl ak (AK.bC rfl ?_);simp only[au,cA];grind
end
def dl(s:Bs)(i:Nat):Int:=(cU s i-97) % 256
def jX(t:Bs)(e:Nat):Bool:=(dl t (e-1)+2*dl t (e-2)+3*dl t (e-3)) % 5==0
def uH(t:Bs)(f:Nat):Nat->Nat
 |0=>min (f+8) t.length
 |k+1=>if t.length<=f+(7-k)then t.length else if jX t (f+(7-k))then f+(7-k)else uH t f k
def cutAt(t:Bs)(f:Nat):Nat:=uH t f 5
def H6(t:Bs)(f:Nat)(a:f<t.length):∀k,k<=5->f<uH t f k/\uH t f k<=t.length/\uH t f k<=f+8
 |0,_=>by simp only[uH];omega
 |k+1,hk=>by
  simp only[uH];split
  .omega
  .split
   .omega
   .exact H6 t f a k (by omega)
theorem mI(t:Bs)(f:Nat)(a:f<t.length):f<cutAt t f/\cutAt t f<=t.length/\cutAt t f<=f+8:=H6 t f a 5 (by omega)
def nk(t:Bs):Nat->Nat->List Nat
 |0,_=>[]
 |k+1,f=>if f<t.length then cutAt t f::nk t k (cutAt t f)else[]
def BR(t:Bs):List Nat:=nk t t.length 0
def eT(t:Bs):Nat->Nat->List Bs
 |0,_=>[]
 |k+1,f=>if f<t.length then(t.drop f).take (cutAt t f-f)::eT t k (cutAt t f)else[]
def pieces(t:Bs):List Bs:=eT t t.length 0
def fW(l:List Bs):Option Bs:=if ez l.flatten&&(pieces l.flatten==l)then aa l.flatten else ae
def bA(p:Bs):Bool:=decide (1<=p.length)&&decide (p.length<=8)&&cf p
def codeOf(p:Bs):Int:=p.foldl (λn b=>27*n+((b.toNat:Int)-97) % 256+1) 0
def b5(k:Int):Bool:=decide (1<=k)&&decide (k<=99)
def dC(k:Int)(p:Bs):Int:=(codeOf p*(2*k+1)+k*7919) % 999999999989
def cR(n:Nat):Nat:=if n<1∨8<n then 0 else if n<=2 then 2 else if n<=4 then 4 else 8
def eZ(p:Bs):Bs:=if bA p then p++List.replicate (cR p.length-p.length) 46 else[]
def strip(b:Bs):Bs:=(b.reverse.dropWhile (·==46)).reverse
def eK(b:Bs):Option Bs:=if bA (strip b)&&(eZ (strip b)==b)then aa (strip b)else ae
abbrev br:=Int×Bs
abbrev bG:=Int×List br
def right(k:Int)(x:br):Bool:=match eK x.2 with|some p=>dC k p==x.1|none=>af
def BH(l:List Int):Bool:=(bc l.length).all λi=>i==0||decide (l.getD (i-1) 0<l.getD i 0)
def gB(k:Int)(p:bG):Bool :=
 decide (1<=p.1)&&decide (p.1<=99)&&b5 k&&decide (1<=p.2.length)&&decide (p.2.length<=4)&&p.2.all (right k)&&BH (p.2.map (·.1))
def chunk(k:Int)(x:br):Option Bs:=match eK x.2 with|some p=>if b5 k&&(dC k p==x.1)then aa p else ae|none=>ae
def ee(k:Int)(p:bG)(n:Int):Option Bs:=match p.2.find? (λx=>x.1==n)with|some x=>chunk k x|none=>ae
def gI(l:List br)(x:br):List br:=match l with
 |[]=>[x]
 |y::r=>if x.1<y.1 then x::y::r else y::gI r x
def fT(no k:Int)(ps:List Bs):bG:=(no,ps.foldl (λl p=>gI l (dC k p,eZ p)) [])
abbrev cm:=Int×Int
def eB(s:cm):Bool:=decide (0<=s.1)&&decide (s.1<999999999989)&&decide (1<=s.2)&&decide (s.2<=99)
def fU(l:List cm)(s:cm):List cm:=match l with
 |[]=>[s]
 |y::r=>if y.1<s.1 then y::fU r s else s::(y::r).filter (λz=>!(z.1==s.1))
def ku(l:List cm)(n:Int):Int:=match l.find? (λs=>s.1==n)with|some s=>s.2|none=>0
def cZ(l:List bG):List cm:=l.flatMap λp=>p.2.map λx=>(x.1,p.1)
def indexOf(l:List bG):List cm:=if(cZ l).all eB then(cZ l).foldl fU []else[]
abbrev jD:=Bs×List Int
abbrev ff:=Int×List jD
def lG(k:Int)(f:bw):jD:=(f.1,(pieces f.2).map (dC k))
def ey(no k:Int)(t:List bw):ff:=(no,t.map (lG k))
def iz(k:Int)(l:List cm)(out:List Bs)(p:Bs):List Bs:=if ku l (dC k p)==0&&!out.contains p then out++[p]else out
def c7(k:Int)(t:List bw)(l:List cm):List Bs:=(t.flatMap λf=>pieces f.2).foldl (iz k l) []
def dg(k:Int)(ps:List bG)(n:Int):Option Bs:=ps.findSome? λp=>ee k p n
def hU{p:Bs}(h:cf p=ab):∀b∈p,97<=b.toNat/\b.toNat<=122:=by intro b a;have:=bz.1 h b a;simpa[e9]using this
def x5:∀(p:Bs) (n m:Int)(k:Nat),(∀b∈p,97<=b.toNat/\b.toNat<=122)->0<=n->n<m->1<=m ->
  0<=p.foldl (λn b=>27*n+((b.toNat:Int)-97) % 256+1) n/\p.foldl (λn b=>27*n+((b.toNat:Int)-97) % 256+1) n<m*27 ^ p.length
 |[],n,m,_,_,d,c,_=>by grind
 |b::p,n,m,k,a,d,c,f=>by obtain⟨g,q2⟩:=a b (by simp);have:=x5 p (27*n+((b.toNat:Int)-97) % 256+1) (m*27) k (λx e=>a x (by grind)) (by omega) (by omega) (by omega);grind[Int.mul_assoc]
def RJ:∀{n:Nat},n<=8->(27:Int) ^ n<=282429536481:=by
 intro n a
 match n,a with
 |0,_|1,_|2,_|3,_|4,_|5,_|6,_|7,_|8,_=>decide
def rj{p:Bs}(h:bA p=ab):0<=codeOf p/\codeOf p<282429536481:=by simp only[bA,bM,a9]at h;obtain⟨a,q2⟩:=x5 p 0 1 0 (hU h.2) (by omega) (by omega) (by omega);have:=RJ h.1.2;rw[Int.one_mul]at q2;exact⟨a,Int.lt_of_lt_of_le q2 this⟩
def cop:∀d:Fin 200,d.val≠0->Nat.gcd 999999999989 d.val=1:=by decide +kernel
def Uj{a:Nat}{P c d:Int}(i:P=(a:Int))(h:P ∣ c*d)(e:0<c)(k:c<P)(g:Nat.gcd a d.natAbs=1):False:=by
 subst i;have b:a ∣ c.natAbs*d.natAbs:=by have:=Int.natAbs_dvd_natAbs.2 h;grind[Int.natAbs_mul,Int.natAbs_natCast]
 have f:a ∣ c.natAbs:=Nat.Coprime.dvd_of_dvd_mul_right g b;have j:=Nat.le_of_dvd (by omega) f;omega
def Qq{a b P:Int}(h:a % P=b % P):P ∣ a-b:=Int.dvd_of_emod_eq_zero (by rw[Int.sub_emod,h,Int.sub_self,Int.zero_emod])
def tP(l:Bs):Int:=l.foldr (λb n=>27*n+((b.toNat:Int)-97) % 256+1) 0
def Eg:∀p:Bs,0<=tP p
 |[]=>by simp[tP]
 |b::p=>by have:=Eg p;simp only[tP,List.foldr_cons]at *;omega
def Ak:∀{p q:Bs},(∀b∈p,97<=b.toNat/\b.toNat<=122)->(∀b∈q,97<=b.toNat/\b.toNat<=122)->tP p=tP q->p=q
 |[],[],_,_,_=>rfl
 |[],c::q,_,a,h|c::q,[],a,_,h=>by have:=Eg q;simp only[tP,List.foldr_cons,List.foldr_nil]at *;omega
 |b::p,c::q,d,a,h=>by have i:=d b (by simp);have g:=a c (by simp);have f:=Ak (p:=p) (q:=q) (λx e=>d x (by grind)) (λx e=>a x (by grind));simp only[tP,List.foldr_cons]at h f;grind[UInt8.toNat_inj]
def Gr{p q:Bs}(b:bA p=ab)(c:bA q=ab)(h:codeOf p=codeOf q):p=q:=by
 have e:∀p,codeOf p=tP p.reverse:=λp=>by simp[codeOf,tP,List.foldr_reverse]
 simp only[bA,bM]at b c;rw[e,e]at h;exact List.reverse_inj.1 (Ak (λx a=>hU b.2 x (List.mem_reverse.1 a)) (λx a=>hU c.2 x (List.mem_reverse.1 a)) h)
def ru(hk:b5 k=ab){p q:Bs}(f:bA p=ab)(c:bA q=ab)(h:dC k p=dC k q):p=q:=by
 refine Gr f c ?_;simp only[b5,bM,a9]at hk;obtain⟨d,c1⟩:=rj f;obtain⟨e,d1⟩:=rj c;have key:∀x y:Int,0<=x->0<=y->x<282429536481->x>y->(x*(2*k+1)+k*7919) % 999999999989=(y*(2*k+1)+k*7919) % 999999999989->False:=by
  intro x y l m g i h;have b:=Qq h;rw[show(x*(2*k+1)+k*7919)-(y*(2*k+1)+k*7919)=(x-y)*(2*k+1) by grind]at b;have j:(2*k+1).natAbs<200:=by omega
  exact Uj (a:=999999999989) rfl b (by omega) (by omega) (cop ⟨_,j⟩ (by grind))
 rcases Int.lt_trichotomy (codeOf p) (codeOf q)with b|b|b
 .exact(key _ _ e d d1 b h.symm).elim
 .exact b
 .exact(key _ _ d e c1 b h).elim
theorem Jx{p:Bs}(h:cf p=ab)(n:Nat):strip (p++List.replicate n 46)=p:=by
 have e:∀n,List.dropWhile (·==46) ((List.replicate n (46:UInt8))++p.reverse)=p.reverse:=by
  intro n;induction n with
  |zero =>
   simp only[List.replicate_zero,mV];cases f:p.reverse with
   |nil=>rfl
   |cons b r =>
    have d:b∈p:=List.mem_reverse.1 (by grind);have:=hU h b d;have a:(b==46)=af:=by simp only[eF];rintro rfl;grind
    simp[a]
  |succ n c=>simpa[List.replicate_succ]using c
 unfold strip;grind
def Eh{p:Bs}(h:bA p=ab):eK (eZ p)=aa p:=by
 have a:cf p=ab:=by simp only[bA,bM]at h;exact h.2
 have e:eZ p=p++List.replicate (cR p.length-p.length) 46:=by simp[eZ,h]
 have s:strip (eZ p)=p:=by grind[Jx]
 simp[eK,s,h]
def mU(l:List br)(i j:Nat):List br:=(l.set i (l.getD j (0,[]))).set j (l.getD i (0,[]))
def oa(l:List br)(i j:Nat):Bool:=decide ((l.getD i (0,[])).1<(l.getD j (0,[])).1)
def y8:Nat->List br->Nat->List br
  | 0,l,_=>l
  | f+1,l,j=>if(j-1) / 2=j then l else if oa l j ((j-1) / 2)=ab then y8 f (mU l ((j-1) / 2) j) ((j-1) / 2)else l
def oc(l:List br)(i n:Nat):Nat:=if 2*i+2<n/\oa l (2*i+2) (2*i+1)=ab then 2*i+2 else 2*i+1
def gZ:Nat->List br->Nat->Nat->List br
  | 0,l,_,_=>l
  | f+1,l,i,n=>if n<=2*i+1 then l else if oa l (oc l i n) i=ab then gZ f (mU l i (oc l i n)) (oc l i n) n else l
def hZ(l:List br)(x:br):List br:=y8 (l.length+1) (l++[x]) l.length
def kW(l:List br):List br:=gZ l.length (mU l 0 (l.length-1)) 0 (l.length-1)
def l0:Nat->List br->List br
  | 0,_=>[]
  | f+1,l=>if l.length=0 then[]else(kW l).getD (l.length-1) (0,[])::l0 f ((kW l).take (l.length-1))
def ni(l:List br):List br:=l0 l.length (l.foldl hZ [])
theorem gn(l:List br)(i j:Nat):(mU l i j).length=l.length:=by simp[mU]
def HR:∀f l j,(y8 f l j).length=l.length
  | 0,_,_=>rfl
  | f+1,l,j=>by unfold y8;split;rfl;split;rw[HR f,gn];rfl
def zX:∀f l i n,(gZ f l i n).length=l.length
  | 0,_,_,_=>rfl
  | f+1,l,i,n=>by unfold gZ;split;rfl;split;rw[zX f,gn];rfl
def zY(l:List br)(x:br):(hZ l x).length=l.length+1:=by simp[hZ,HR]
theorem DJ(l:List br):(kW l).length=l.length:=by simp[kW,zX,gn]
def P8{l:List br}(hi:i<l.length)(a:j<l.length){x:br}:x∈mU l i j->x∈l:=by intro h;unfold mU at h;grind
def HS(x:br):hZ [] x=[x]:=by simp[hZ,y8]
def Mq(a x:br):hZ [a] x=if x.1<a.1 then[x,a]else[a,x]:=by simp[hZ,y8,oa,mU]
def RU(a b x:br):hZ [a,b] x=if x.1<a.1 then[x,b,a]else[a,b,x]:=by simp[hZ,y8,oa,mU]
def WU(a b c x:br):hZ [a,b,c] x=if x.1<b.1 then(if x.1<a.1 then[x,a,c,b]else[a,x,c,b])else[a,b,c,x]:=by simp[hZ,y8,oa,mU]
def uL(f:Nat){l r:List br}{x:br}(a:l.length=n+1)(h:kW l=r++[x])(b:r.length=n):l0 (f+1) l=x::l0 f r:=by rw[l0,aY (by omega),h];grind
def RV(a:br):l0 1 [a]=[a]:=by simp[l0,kW,gZ,mU]
def RX(a b:br):l0 2 [a,b]=[a,b]:=by rw[uL 1 (r:=[b]) (x:=a) (n:=1) rfl (by simp[kW,gZ,mU]) rfl,RV]
def RY(a b c:br):l0 3 [a,b,c]=if b.1<c.1 then[a,b,c]else[a,c,b]:=by rw[uL 2 (r:=if b.1<c.1 then[b,c]else[c,b]) (x:=a) (n:=2) rfl (by simp[kW,gZ,mU,oc,oa];split<;>rfl) (by split<;>rfl)];split<;>rw[RX]
def WV(a b c d:br):l0 4 [a,b,c,d]=a::l0 3 (if c.1<b.1 then(if c.1<d.1 then[c,b,d]else[d,b,c])else if b.1<d.1 then[b,d,c]else[d,b,c]):=by rw[uL 3 (r:=if c.1<b.1 then(if c.1<d.1 then[c,b,d]else[d,b,c])else if b.1<d.1 then[b,d,c]else[d,b,c]) (x:=a) (n:=3) rfl ?_ (by split<;>split<;>rfl)];by_cases f:c.1<b.1<;>by_cases e:c.1<d.1<;>by_cases g:b.1<d.1<;>simp[kW,gZ,mU,oc,oa,f,e,g]
theorem Mr(l:List br)(h:l.length<=4)(e:l.Pairwise λa b=>a.1≠b.1):ni l=l.foldl gI []:=by
  match l,h with
  | [],_=>rfl
  | [a],_=>simp[ni,HS,RV,gI]
  | [a,b],_ =>
    simp at e;simp only[ni,List.foldl,HS,Mq,gI,fb,gO];split<;>simp[RX]
  | [a,b,c],_ =>
    simp at e;obtain⟨⟨s,n⟩,p⟩:=e;simp only[ni,List.foldl,HS,Mq,gI,fb,gO];by_cases j:b.1<a.1<;>by_cases q2:c.1<a.1<;>by_cases g:c.1<b.1<;>first|omega |
      (have i:(a.1<b.1)=¬(b.1<a.1):=by grind
       have f:(a.1<c.1)=¬(c.1<a.1):=by grind
       have k:(b.1<c.1)=¬(c.1<b.1):=by grind
       simp[j,q2,g,i,f,k,RU,RY,gI])
  | [a,b,c,d],_ =>
    simp at e;obtain⟨⟨s,n,p⟩,⟨u,w⟩,v⟩:=e;simp only[ni,List.foldl,HS,Mq,gI,fb,gO];by_cases j:b.1<a.1<;>by_cases q2:c.1<a.1<;>by_cases g:c.1<b.1<;>by_cases q4:d.1<a.1<;>by_cases m:d.1<b.1<;>by_cases r:d.1<c.1<;>first|omega |
      (have i:(a.1<b.1)=¬(b.1<a.1):=by grind
       have f:(a.1<c.1)=¬(c.1<a.1):=by grind
       have k:(b.1<c.1)=¬(c.1<b.1):=by grind
       have q:(a.1<d.1)=¬(d.1<a.1):=by grind
       have o:(b.1<d.1)=¬(d.1<b.1):=by grind
       have t:(c.1<d.1)=¬(d.1<c.1):=by grind
       simp[j,q2,g,q4,m,r,i,f,k,q,o,t,RU,WU,WV,RY,gI])
section
open Go.Proofs Go.Conc.Lib
def RN:WgLink:={add:=138,done:=140,wait:=142,relMerge:=161,disable:=162,enable:=163,inBubble:=164,associate:=165,fatal:=166,uOr:=167,uAdd:=168,raceRead:=169,uLoad:=170,uStore:=171,disassociate:=172,semrelease:=173,acquire:=175,isAssociated:=176,uCas:=177,raceWrite:=178,semacquire:=179,orU64:=203,addU64:=204,loadU64:=205,storeU64:=206,casU64:=209,tWgP:=238,tUP:=124,tAssoc:=240,tWg:=211,tAU:=208,tU64:=206,tUint:=221,tU32:=209,tPU32:=244,tPAU:=273,tPU64:=275,tNoCopy:=203,tANoCopy:=204,tAlign64:=205}
def DC:WgLib ag RN where
 f_add:=Tryz.func138.trans (dH aa (by kernel_rfl))
 f_done:=Tryz.func140.trans (dH aa (by kernel_rfl))
 f_wait:=Tryz.func142.trans (dH aa (by kernel_rfl))
 f_relMerge:=Tryz.func161.trans (dH aa (by kernel_rfl))
 f_disable:=Tryz.func162.trans (dH aa (by kernel_rfl))
 f_enable:=Tryz.func163.trans (dH aa (by kernel_rfl))
 f_inBubble:=Tryz.func164.trans (dH aa (by kernel_rfl))
 f_associate:=Tryz.func165.trans (dH aa (by kernel_rfl))
 f_fatal:=Tryz.func166.trans (dH aa (by kernel_rfl))
 f_uOr:=Tryz.func167.trans (dH aa (by kernel_rfl))
 f_uAdd:=Tryz.func168.trans (dH aa (by kernel_rfl))
 f_raceRead:=Tryz.func169.trans (dH aa (by kernel_rfl))
 f_uLoad:=Tryz.func170.trans (dH aa (by kernel_rfl))
 f_uStore:=Tryz.func171.trans (dH aa (by kernel_rfl))
 f_disassociate:=Tryz.func172.trans (dH aa (by kernel_rfl))
 f_semrelease:=Tryz.func173.trans (dH aa (by kernel_rfl))
 f_acquire:=Tryz.func175.trans (dH aa (by kernel_rfl))
 f_isAssociated:=Tryz.func176.trans (dH aa (by kernel_rfl))
 f_uCas:=Tryz.func177.trans (dH aa (by kernel_rfl))
 f_raceWrite:=Tryz.func178.trans (dH aa (by kernel_rfl))
 f_semacquire:=Tryz.func179.trans (dH aa (by kernel_rfl))
 f_orU64:=Tryz.func203.trans (dH aa (by kernel_rfl))
 f_addU64:=Tryz.func204.trans (dH aa (by kernel_rfl))
 f_loadU64:=Tryz.func205.trans (dH aa (by kernel_rfl))
 f_storeU64:=Tryz.func206.trans (dH aa (by kernel_rfl))
 f_casU64:=Tryz.func209.trans (dH aa (by kernel_rfl))
 underlying_tWgP:=Tryz.underlying238
 runUnderlying_tWgP:=Tryz.runUnderlying238
 sizeOf_tWgP:=Tryz.sizeOf238
 isAgg_tWgP:=Tryz.isAgg238
 zeroValue_tWgP:=Tryz.zeroValue238
 underlying_tUP:=Tryz.underlying124
 runUnderlying_tUP:=Tryz.runUnderlying124
 sizeOf_tUP:=Tryz.sizeOf124
 isAgg_tUP:=Tryz.isAgg124
 zeroValue_tUP:=Tryz.zeroValue124
 underlying_tI32:=Tryz.underlying240
 runUnderlying_tI32:=Tryz.runUnderlying240
 sizeOf_tI32:=Tryz.sizeOf240
 isAgg_tI32:=Tryz.isAgg240
 zeroValue_tI32:=Tryz.zeroValue240
 underlying_tWg:=Tryz.underlying211
 runUnderlying_tWg:=Tryz.runUnderlying211
 sizeOf_tWg:=Tryz.sizeOf211
 isAgg_tWg:=Tryz.isAgg211
 zeroValue_tWg:=Tryz.zeroValue211
 underlying_tAU:=Tryz.underlying208
 runUnderlying_tAU:=Tryz.runUnderlying208
 sizeOf_tAU:=Tryz.sizeOf208
 isAgg_tAU:=Tryz.isAgg208
 zeroValue_tAU:=Tryz.zeroValue208
 underlying_tU64:=Tryz.underlying206
 runUnderlying_tU64:=Tryz.runUnderlying206
 sizeOf_tU64:=Tryz.sizeOf206
 isAgg_tU64:=Tryz.isAgg206
 zeroValue_tU64:=Tryz.zeroValue206
 underlying_tSh:=Tryz.underlying221
 runUnderlying_tSh:=Tryz.runUnderlying221
 sizeOf_tSh:=Tryz.sizeOf221
 isAgg_tSh:=Tryz.isAgg221
 zeroValue_tSh:=Tryz.zeroValue221
 underlying_tU32:=Tryz.underlying209
 runUnderlying_tU32:=Tryz.runUnderlying209
 sizeOf_tU32:=Tryz.sizeOf209
 isAgg_tU32:=Tryz.isAgg209
 zeroValue_tU32:=Tryz.zeroValue209
 underlying_tPU32:=Tryz.underlying244
 runUnderlying_tPU32:=Tryz.runUnderlying244
 sizeOf_tPU32:=Tryz.sizeOf244
 isAgg_tPU32:=Tryz.isAgg244
 zeroValue_tPU32:=Tryz.zeroValue244
 underlying_tPAU:=Tryz.underlying273
 runUnderlying_tPAU:=Tryz.runUnderlying273
 sizeOf_tPAU:=Tryz.sizeOf273
 isAgg_tPAU:=Tryz.isAgg273
 zeroValue_tPAU:=Tryz.zeroValue273
 underlying_tPU64:=Tryz.underlying275
 runUnderlying_tPU64:=Tryz.runUnderlying275
 sizeOf_tPU64:=Tryz.sizeOf275
 isAgg_tPU64:=Tryz.isAgg275
 zeroValue_tPU64:=Tryz.zeroValue275
 underlying_t0:=Tryz.underlying0
 runUnderlying_t0:=Tryz.runUnderlying0
 sizeOf_t0:=Tryz.sizeOf0
 isAgg_t0:=Tryz.isAgg0
 zeroValue_t0:=Tryz.zeroValue0
 underlying_t3:=Tryz.underlying3
 runUnderlying_t3:=Tryz.runUnderlying3
 sizeOf_t3:=Tryz.sizeOf3
 isAgg_t3:=Tryz.isAgg3
 zeroValue_t3:=Tryz.zeroValue3
 underlying_t4:=Tryz.underlying4
 runUnderlying_t4:=Tryz.runUnderlying4
 sizeOf_t4:=Tryz.sizeOf4
 isAgg_t4:=Tryz.isAgg4
 zeroValue_t4:=Tryz.zeroValue4
 underlying_t9:=Tryz.underlying9
 runUnderlying_t9:=Tryz.runUnderlying9
 sizeOf_t9:=Tryz.sizeOf9
 isAgg_t9:=Tryz.isAgg9
 zeroValue_t9:=Tryz.zeroValue9
 underlying_t20:=Tryz.underlying20
 runUnderlying_t20:=Tryz.runUnderlying20
 sizeOf_t20:=Tryz.sizeOf20
 isAgg_t20:=Tryz.isAgg20
 zeroValue_t20:=Tryz.zeroValue20
 underlying_t21:=Tryz.underlying21
 runUnderlying_t21:=Tryz.runUnderlying21
 sizeOf_t21:=Tryz.sizeOf21
 isAgg_t21:=Tryz.isAgg21
 zeroValue_t21:=Tryz.zeroValue21
 room_tWg:=by kernel_rfl
 room_tU32:=by kernel_rfl
end
end R1
def cp.imp{d a:D}{ds G5:List D}(h:∀v,du σ s v d->du σ s v a)(k:∀vs,cp σ s vs ds->cp σ s vs G5):∀vs,cp σ s vs (d::ds)->cp σ s vs (a::G5)
 |[],r=>r.elim
 |v::vs,r=>⟨h v r.1,k vs r.2⟩
abbrev dP(f:bw):D:=.e (.agg [.c (.str f.1),.c (.str f.2)])
abbrev PX(a:List bw)(b:Bool):D:=.fD [.one (.c (.sl af 2 a.length (cF.fn a))),.one (.c (.bool b))]
namespace R1
variable {X:Cx ag}
def Xb:dJ:=λargs σ=>match args,σ with
 |[c],[]=>match kH 2 c with
  |none=>ae
  |some (b,a)=>aa (dB (cA (cF.list b a)),[],[cF.fits b a])
 |_,_=>ae
def t23:eh X 23 Xb:=by
 intro args σ res σ' obs h a;unfold Xb at h;split at h
 .split at h
  .cases h
  rename_i d c b;cases h;exact(z0 _ ).args (λ_ vs=>cp.imp (λ_=>cF.jS b a) (λ_ r=>r) vs)
 grind
def ct3:List (Nat×dJ):=(23,Xb)::ct2
def aar:bH X ct3:=bH.cons t23 uX
end R1
def mS.cD(c:mS α)(l:List α)(x:α):cE (l.length+1) (cM l.length (c.fn l) (λi=>[c.enc x].getD i [])) (c.fn (l++[x])):=by intro i hi;unfold cM mS.fn BQ;grind
@[simp] theorem cE.same{f:Nat->List C}:cE n f f:=λ_ _=>rfl
@[simp] theorem cE.nil{f g:Nat->List C}:cE 0 f g:=λi h=>by omega
namespace R1
variable {X:Cx ag}
def mN(t:List bw)(p:Bs):List bw:=t.filter λf=>!(f.1==p)
def Gx{t:List bw}{p:Bs}(h:i<t.length):mN (t.take (i+1)) p=mN (t.take i) p++(if fG t i=p then[]else[(fG t i,uc t i)]):=by
 have e:t.getD i ([],[])=t[i]:=by grind
 have a:(fG t i,uc t i)=t[i]:=by simp only[fG,uc,e]
 rw[lN,bn h,a];simp only[mN,List.filter_append,Option.toList_some];grind
theorem JC(t:List bw)(p:Bs):(mN t p).length<=t.length:=List.length_filter_le _ _
def Ia(t:List bw)(p:Bs)(d:t.length<=4000000):Ev X 101 [cF.sl t,dS p] [] (cF.sl (mN t p)) []:=by
 refine Ev.bQ Tryz.func101 rfl λc=>?_;refine bu rfl ak ?_;refine AK.iW 5 50 2 rfl rfl ?_;refine AK.kq (λi=>i<=t.length) (λi:Nat=>[(0,cF.sl t),(1,dS p),(6,dI i),(5,.e (.one (.vec 0 2 (mN (t.take i) p).length (cF.fn (mN (t.take i) p)))))]) (λi=>[.vec 50 2 (mN (t.take i) p).length (cF.fn (mN (t.take i) p))]) (λi=>t.length-i) 0 rfl ?_ rfl ?_ (by omega) ?_
 .simp[cE,mN]
 .simp[cE,mN]
 intro i hi;by_cases h:i<t.length
 .have a:=Gx (p:=p) h;have f:(mN (t.take i) p).length<=4000000:=by grind[JC]
  by_cases b:fG t i=p
  .rw[bo b,iw]at a;refine aW [(11,ab),(20,af)] rfl ?_ (AK.gg (i+1) rfl ?_ rfl ?_ ?_ ?_)
   .simp[-aj,h,g7,b,bE];omega
   .rw[a];simp[cE]
   .rw[a];simp[cE]
   .omega
   .omega
  .rw[aY b]at a;refine aW [(11,ab),(20,ab)] rfl ?_ (AK.gg (i+1) rfl ?_ rfl ?_ ?_ ?_)
   .simp[-aj,h,g7,b,bE,i50];omega
   .rw[a];simp[-aj];exact cF.cD _ (fG t i,uc t i)
   .rw[a];simp[-aj];exact cF.cD _ (fG t i,uc t i)
   .omega
   .omega
 .have:i=t.length:=by omega
  subst this;refine aW [(11,af)] rfl (by simp) (AK.leave rfl rfl ?_);refine bu rfl ak (AK.bC rfl ?_);simp[cE]
def Uo:dJ:=λargs σ=>match args,σ with
 |[f,.e (.one (.c (.str b)))],[]=>match kH 2 f with
  |none=>ae
  |some (d,a)=>aa (cF.sl (mN (cF.list d a) b),[],[cF.fits d a,((cF.list d a)).length<=4000000])
 |_,_=>ae
def t101:eh X 101 Uo:=by
 intro args σ res σ' obs h a;unfold Uo at h;split at h
 .split at h
  .cases h
  rename_i d c b;cases h;exact(Ia _ _ (a.2)).args (λ_ vs=>cp.imp (λ_=>cF.jS b a.1) (cp.imp (λ_ r=>r) (λ_ r=>r)) vs)
 grind
def ct5:List (Nat×dJ):=(101,Uo)::ct3
def aat:bH X ct5:=bH.cons t101 aar
end R1
def Fits.R6{args:List D}(h:Fits args σ)(k:Nat){cs:List A}(hk:args[k]?=aa (.e (.agg cs)))(j:Nat){t:Bool}{q:Nat}(hj:cs[j]?=aa (A.c (.sl t q n es))):n<=9223372036854775807:=by obtain⟨s,v,a⟩:=h.at hk;obtain⟨vs,_,h2⟩:=a;obtain⟨u,_,b⟩:=er.get h2 hj;cases b<;>omega
namespace R1
def ja{p:Nat->Bool}(hi:i<n)(h:p i=af):(bc n).all p=af:=by grind
def ky{p:Nat->Bool}(a:∀j,j<i->p j=ab)(h:p i=ab):∀j,j<i+1->p j=ab:=λj b=>by grind
end R1
def Tr.put(a b:Int):Tr->Tr
 |.nil=>.nd .nil a b .nil
 |.nd l x y r=>if a<x then .nd (l.put a b) x y r else if x<a then .nd l x y (r.put a b)else .nd l a b r
def Tr.list:Tr->List (Int×Int)
 |.nil=>[]
 |.nd l x y r=>l.list++(x,y)::r.list
def Tr.find(n:Int):Tr->Int
 |.nil=>0
 |.nd l x y r=>if n=x then y else if n<x then l.find n else r.find n
namespace R1
theorem M6{l:List cm}{s:cm}(h:∀x∈l,x.1<s.1):fU l s=l++[s]:=by
 induction l with
 |nil=>rfl
 |cons y r a =>
  simp only[fU];grind
def Ei{l r:List cm}{s:cm}(h:∀x∈l,x.1<s.1):fU (l++r) s=l++fU r s:=by
 induction l with
 |nil=>rfl
 |cons y l a =>
  simp only[sS,fU];grind
def Jy{l r:List cm}{s:cm}(h:∀x∈r,s.1<x.1):fU (l++r) s=fU l s++r:=by
 have e:r.filter (λz=>!(z.1==s.1))=r:=AJ.2 λx b=>by grind
 induction l with
 |nil =>
  cases r with
  |nil=>rfl
  |cons y r =>
   have:=h y lM;simp only[mV,fU];grind
 |cons y l a =>
  simp only[sS,fU];grind
abbrev Tr.Ok(t:Tr):Prop:=t.list.Pairwise λx y=>x.1<y.1
theorem yN{a b:Int}:∀{t:Tr},Tr.Ok t->(t.put a b).list=fU t.list (a,b)
 |.nil,_=>rfl
 |.nd l x y r,h=>by
  obtain⟨j,f,i⟩:=qA.1 h;have g:=jL.1 f;have k:∀z∈l.list,z.1<x:=λz c=>i z c (x,y) lM;simp only[Tr.put,Tr.list];split
  .rename_i d;simp only[Tr.list];rw[yN (t:=l) j,Jy (r:=(x,y)::r.list)];grind
  split
  .rename_i _ d;simp only[Tr.list];rw[yN (t:=r) g.2,Ei (l:=l.list) λz c=>by grind];simp only[fU];grind
  .have e:a=x:=by omega
   subst e;simp only[Tr.list];rw[Ei (l:=l.list) λz c=>k z c];simp only[fU];rw[aY (by simp),List.filter_cons,aY (by simp),AJ.2 λz c=>by grind]
theorem Qs{l:List cm}{s:cm}(h:l.Pairwise λx y=>x.1<y.1):(fU l s).Pairwise (λx y=>x.1<y.1)/\∀z∈fU l s,z=s∨z∈l:=by
 induction l with
 |nil=>simp[fU]
 |cons y r b =>
  obtain⟨c,a⟩:=jL.1 h;obtain⟨d,i2⟩:=b a;simp only[fU];grind[List.pairwise_cons]
def uW{n:Int}:∀{t:Tr},Tr.Ok t->t.find n=ku t.list n
 |.nil,_=>rfl
 |.nd l x y r,h=>by obtain⟨e,a,d⟩:=qA.1 h;have c:=jL.1 a;have g:∀z∈l.list,z.1<x:=λz b=>d z b (x,y) lM;simp only[Tr.find,Tr.list];have f:=uW (n:=n) (t:=l) e;have i2:=uW (n:=n) (t:=r) c.2;unfold ku at *;grind
end R1
namespace R1
section
variable {X:Cx ag}
def sC(f:bw)(acc:List bw×Bool)(g:Bs):List bw×Bool:=if acc.2=ab then acc else if bq g f.1=ab then acc else(acc.1++[f],ab)
def Qx(f:bw)(a:List bw×Bool)(g:bw):List bw×Bool:=if g.1=f.1 then a else(a.1++[g],a.2)
def pe(f:bw)(acc:List bw×Bool)(g:bw):List bw×Bool:=Qx f (sC f acc g.1) g
def lT(f:bw)(t:List bw):List bw×Bool:=t.foldl (pe f) ([],af)
def tT(t:List bw)(f:bw):List bw:=if(lT f t).2=ab then(lT f t).1 else(lT f t).1++[f]
theorem fileAt{t:List bw}(h:i<t.length):t[i]=(fG t i,uc t i):=by
 have e:t.getD i ([],[])=t[i]:=by grind
 simp only[fG,uc,e]
def Er{f:bw}{t:List bw}(h:i<t.length):lT f (t.take (i+1))=pe f (lT f (t.take i)) (fG t i,uc t i):=by rw[lN,bn h,fileAt h];simp[lT]
def Et(f:bw)(acc:List bw×Bool)(g:Bs):(sC f acc g).1.length<=acc.1.length+1:=by unfold sC;grind
def Nf(f:bw)(acc:List bw×Bool)(g:bw):(Qx f acc g).1.length<=acc.1.length+1:=by unfold Qx;grind
def yO(f:bw):∀(t:List bw)(acc:List bw×Bool),(t.foldl (pe f) acc).1.length<=acc.1.length+2*t.length
 |[],acc=>by simp
 |g::r,acc=>by
  have b:=yO f r (pe f acc g);have a:=Et f acc g.1;have c:=Nf f (sC f acc g.1) g;simp only[jN,fb];have:(pe f acc g).1.length<=acc.1.length+2:=by unfold pe;omega
  omega
abbrev dV(l:Nat)(t:List bw):D:=.e (.one (.vec l 2 t.length (cF.fn t)))
abbrev bV(t:List bw):bg:=.vec 50 2 t.length (cF.fn t)
def Qy(t:List bw)(f:bw)(s:t.length<=4000000):Ev X 102 [cF.sl t,dP f] [] (dV 0 (tT t f)) [bV (tT t f)]:=by
 refine Ev.bQ Tryz.func102 rfl λr=>?_;refine bu rfl ak ?_;refine AK.iW 5 50 2 rfl rfl ?_;let A:Nat->List bw×Bool:=λi=>lT f (t.take i);have d:∀i,i<=t.length->(A i).1.length<=8000000:=by intro i hi;have:=yO f (t.take i) ([],af);simp at this;show(lT f (t.take i)).1.length<=_;unfold lT;omega
 refine AK.kq (λi=>i<=t.length) (λi:Nat=>[(0,cF.sl t),(3,.e (.one (.ptr 0 0))),(7,dI i),(5,dV 1 (A i).1),(6,dB (A i).2)]) (λi=>[.cells 50 [.c (.str f.1),.c (.str f.2)],bV (A i).1]) (λi=>t.length-i) 0 rfl ?_ rfl ?_ (by omega) ?_
 .simp[cE,A,lT]
 .simp[cE,A,lT]
 intro i hi;by_cases h:i<t.length
 .have p:A (i+1)=pe f (A i) (fG t i,uc t i):=Er h;have q:=d i hi;generalize A i=acc at *;have o:=Et f acc (fG t i);apply AK.join [(0,cF.sl t),(3,.e (.one (.ptr 0 0))),(7,dI i),(5,dV 1 (sC f acc (fG t i)).1),(6,dB (sC f acc (fG t i)).2)] [.cells 50 [.c (.str f.1),.c (.str f.2)],bV (sC f acc (fG t i)).1]
  .intro hk;cases b:acc.2 with
   |true =>
    have j:sC f acc (fG t i)=acc:=by unfold sC;grind
    rw[j]at hk;refine bO [(12,ab),(15,ab),(1000009,ab)] rfl ?_ (hk _ _ rfl ?_)
    .simp[h]
    .simp[b]
   |false =>
    cases k:bq (fG t i) f.1 with
    |true =>
     have j:sC f acc (fG t i)=acc:=by unfold sC;grind
     rw[j]at hk;refine bO [(12,ab),(15,af),(25,af),(1000009,ab)] rfl ?_ (hk _ _ rfl ?_)
     .simp[-aj,h,g7,k]
     .simp[b]
    |false =>
     have j:sC f acc (fG t i)=(acc.1++[f],ab):=by unfold sC;grind
     rw[j]at hk;refine bO [(12,ab),(15,af),(25,ab),(1000009,ab)] rfl ?_ (AK.norm _ rfl ?_ (hk _ _ rfl ?_))
     .simp[-aj,h,g7,k,i50];omega
     .simp[-aj];exact cF.cD _ f
     .simp[-aj];exact cF.cD _ f
  .have l:A (i+1)=Qx f (sC f acc (fG t i)) (fG t i,uc t i):=p;generalize sC f acc (fG t i)=a1 at *;by_cases m:fG t i=f.1
   .have a:A (i+1)=a1:=by rw[l];exact bo m
    refine bO [(38,af)] rfl ?_ (AK.gg (i+1) rfl ?_ rfl ?_ ?_ ?_)
    .simp[-aj,h,g7,m,bE];omega
    .rw[a];simp
    .rw[a];simp
    .omega
    .omega
   .have a:A (i+1)=(a1.1++[(fG t i,uc t i)],a1.2):=by rw[l];exact aY m
    refine bO [(38,ab)] rfl ?_ (AK.gg (i+1) rfl ?_ rfl ?_ ?_ ?_)
    .simp[-aj,h,g7,m,bE,i50];omega
    .rw[a];simp[-aj];exact cF.cD _ (fG t i,uc t i)
    .rw[a];simp[-aj];exact cF.cD _ (fG t i,uc t i)
    .omega
    .omega
 .have:i=t.length:=by omega
  subst this;have n:A t.length=lT f t:=by grind
  have q:=d t.length (bh _);refine aW [(12,af)] rfl (by simp) (AK.leave rfl rfl ?_);have g:tT t f=if(A t.length).2=ab then(A t.length).1 else(A t.length).1++[f]:=by rw[n];rfl
  cases b:(A t.length).2 with
  |true =>
   rw[b,bo rfl]at g;refine aW [(46,ab)] rfl ?_ (AK.norm [.cells 50 [.c (.str f.1),.c (.str f.2)],bV (tT t f)] rfl ?_ (AK.cX [1] rfl ?_ rfl rfl rfl ?_))
   .simp
   .rw[g];simp
   .rw[g];simp
   grind
  |false =>
   rw[b,aY (by simp)]at g;refine aW [(46,af)] rfl ?_ (AK.norm [.cells 50 [.c (.str f.1),.c (.str f.2)],bV (tT t f)] rfl ?_ (AK.cX [1] rfl ?_ rfl rfl rfl ?_))
   .simp[i50];omega
   .rw[g];simp[-aj];exact cF.cD _ f
   .rw[g];simp[-aj];exact cF.cD _ f
   grind
end
end R1
def cE.app0{f g:Nat->List C}:cE n (cM 0 f g) g:=λi _=>by simp[cM]
namespace R1
variable {X:Cx ag}
def Up:dJ:=λargs σ=>match args,σ with
 |[d,.e (.agg [.c (.str b0),.c (.str b1)])],[]=>match kH 2 d with
  |none=>ae
  |some (b,a)=>aa (dV 0 (tT (cF.list b a) (b0,b1)) ,[ bV (tT (cF.list b a) (b0,b1))],[cF.fits b a,((cF.list b a)).length<=4000000])
 |_,_=>ae
def t102:eh X 102 Up:=by
 intro args σ res σ' obs h a;unfold Up at h;split at h
 .split at h
  .cases h
  rename_i d c b;cases h;exact(Qy _ _ (a.2)).args (λ_ vs=>cp.imp (λ_=>cF.jS b a.1) (cp.imp (λ_ r=>r) (λ_ r=>r)) vs)
 .cases h
def ct6:List (Nat×dJ):=(102,Up)::ct5
def JD:bH X ct6:=bH.cons t102 (aat)
def eD(t:List bw)(p x:Bs):List bw×Bool :=
 if cA t=ab/\dO p=ab/\ez x=ab then(if cA (tT t (p,x))=ab then(tT t (p,x),ab)else(t,af))else([],af)
abbrev tVB(l:Nat)(t:List bw)(b:Bool):D:=.fD [.one (.vec l 2 t.length (cF.fn t)),.one (.c (.bool b))]
def mO{t:List bw}(h:cA t=ab):t.length<=6:=by simp only[cA,bM,a9]at h;exact h.2
def vE(t:List bw)(p x:Bs):Ev X 50 [cF.sl t,dS p,dS x] [] (tVB 0 (eD t p x).1 (eD t p x).2) [bV (eD t p x).1]:=by
 refine Ev.bQ Tryz.func50 rfl λg=>?_;have a:¬(cA t=ab/\dO p=ab/\ez x=ab)->eD t p x=([],af):=λh=>aY h;cases b:cA t with
 |false =>
  rw[a (by grind)];refine aU JD [(10,af)] rfl ?_ ?_
  .simp[cF.list_fn,cF.aK,b]
  .refine AK.iW 6 50 2 rfl rfl (AK.norm [bV []] rfl ?_ (AK.cX [0] rfl ?_ rfl rfl rfl ?_))
   .simp[cE]
   .simp[cE]
   grind
 |true =>
  have i:=mO b;cases c:dO p with
  |false =>
   rw[a (by grind)];refine aU JD [(10,ab),(14,af)] rfl ?_ ?_
   .simp[cF.list_fn,cF.aK,b,c]
   .refine AK.iW 6 50 2 rfl rfl (AK.norm [bV []] rfl ?_ (AK.cX [0] rfl ?_ rfl rfl rfl ?_))
    .simp[cE]
    .simp[cE]
    grind
  |true =>
   cases f:ez x with
   |false =>
    rw[a (by grind)];refine aU JD [(10,ab),(14,ab),(19,af)] rfl ?_ ?_
    .simp[cF.list_fn,cF.aK,b,c,f]
    .refine AK.iW 6 50 2 rfl rfl (AK.norm [bV []] rfl ?_ (AK.cX [0] rfl ?_ rfl rfl rfl ?_))
     .simp[cE]
     .simp[cE]
     grind
   |true =>
    have e:eD t p x=if cA (tT t (p,x))=ab then(tT t (p,x),ab)else(t,af):=bo ⟨b,c,f⟩;cases d:cA (tT t (p,x))with
    |true =>
     rw[d,bo rfl]at e;rw[e];refine aU JD [(10,ab),(14,ab),(19,ab),(29,ab)] rfl ?_ (AK.norm [bV (tT t (p,x))] rfl ?_ (AK.cX [0] rfl ?_ rfl rfl rfl ?_))
     .simp[cF.list_fn,cF.aK,b,c,f,d];omega
     .simp[cF.list_fn]
     .simp[cF.list_fn]
     grind
    |false =>
     rw[d,aY (by simp)]at e;rw[e];refine aU JD [(10,ab),(14,ab),(19,ab),(29,af)] rfl ?_ (AK.norm [bV (tT t (p,x)),bV t] rfl ?_ (AK.cX [1] rfl ?_ rfl rfl rfl ?_))
     .simp[cF.list_fn,cF.aK,b,c,f,d,i50];omega
     .simp[cF.list_fn,cE.app0]
     .simp[cE.app0]
     grind
def yQ(t:List bw)(p x:Bs):Ev X 50 [cF.sl t,dS p,dS x] [] (PX (eD t p x).1 (eD t p x).2) [] :=
 (vE t p x).forget rfl (by simp) rfl
def c50:dJ:=λargs σ=>match args,σ with
 |[f,.e (.one (.c (.str b))),.e (.one (.c (.str c)))],[]=>match kH 2 f with
  |none=>ae
  |some (d,a)=>aa (PX (eD (cF.list d a) b c).1 (eD (cF.list d a) b c).2,[],[cF.fits d a])
 |_,_=>ae
def t50:eh X 50 c50:=by
 intro args σ res σ' obs h a;unfold c50 at h;split at h
 .split at h
  .cases h
  rename_i d c b;cases h;exact(yQ _ _ _ ).args (λ_ vs=>cp.imp (λ_=>cF.jS b a) (cp.imp (λ_ r=>r) (cp.imp (λ_ r=>r) (λ_ r=>r))) vs)
 .cases h
def ct7:List (Nat×dJ):=(50,c50)::ct6
def aav:bH X ct7:=bH.cons t50 (JD)
end R1
def I1(cs:List C)(j:Nat):Nat×(Nat->List C):=match dF j cs with|some (.sl _ _ n es)=>(n,es)|_=>(0,λ_=>[])
def cI:mS Int:={k:=1,enc:=λn=>[.int .i64 n],dec:=λcs=>ya cs 0,b8:=0,inv:=λ_=>rfl,len:=λ_=>rfl}
def cS:mS Bs:={k:=1,enc:=λs=>[.str s],dec:=λcs=>Dv cs 0,b8:=[],inv:=λ_=>rfl,len:=λ_=>rfl}
namespace R1
def ei:mS br:={k:=2,enc:=λx=>[.int .i64 x.1,.str x.2],dec:=λcs=>(ya cs 0,Dv cs 1),b8:=(0,[]),inv:=λ_=>rfl,len:=λ_=>rfl}
def pG:mS cm:={k:=2,enc:=λx=>[.int .i64 x.1,.int .i64 x.2],dec:=λcs=>(ya cs 0,ya cs 1),b8:=(0,0),inv:=λ_=>rfl,len:=λ_=>rfl}
abbrev sP(p:bG):C:=.sl af 2 p.2.length (ei.fn p.2)
def cP:mS bG:={k:=2,enc:=λp=>[.int .i64 p.1,sP p],dec:=λcs=>(ya cs 0,ei.list (I1 cs 1).1 (I1 cs 1).2),b8:=(0,[]),inv:=λp=>by show(p.1,ei.list p.2.length (ei.fn p.2))=p;rw[ei.list_fn],len:=λ_=>rfl}
def cL:mS jD:={k:=2,enc:=λx=>[.str x.1,.sl af 1 x.2.length (cI.fn x.2)],dec:=λcs=>(Dv cs 0,cI.list (I1 cs 1).1 (I1 cs 1).2),b8:=([],[]),inv:=λp=>by show(p.1,cI.list p.2.length (cI.fn p.2))=p;rw[cI.list_fn],len:=λ_=>rfl}
def eX:mS ff:={k:=2,enc:=λx=>[.int .i64 x.1,.sl af 2 x.2.length (cL.fn x.2)],dec:=λcs=>(ya cs 0,cL.list (I1 cs 1).1 (I1 cs 1).2),b8:=(0,[]),inv:=λp=>by show(p.1,cL.list p.2.length (cL.fn p.2))=p;rw[cL.list_fn],len:=λ_=>rfl}
def cH:mS (Int×Int):=pG
abbrev LY(p:bG):D:=.e (.agg [.c (.int .i64 p.1),.c (sP p)])
abbrev Yk(r:Option Bs):D:=.e (.agg [.c (.str (r.getD [])),.c (.bool r.isSome)])
end R1
structure Arg(α:Type) where
 enc:α->D
 arg:D->Option (α×List Prop)
 ok:∀{d a o},arg d=aa (a,o)->au o->∀{σ:List bg} {s:St} {v:ai},du σ s v d->du σ s v (enc a)
def aI:Arg Int:=⟨dI,λd=>match d with|.e (.one (.c (.int .i64 n)))=>aa (n,[])|_=>ae,λ{d a o} h _ _ _ _ r=>by grind⟩
def aS:Arg Bs:=⟨dS,λd=>match d with|.e (.one (.c (.str n)))=>aa (n,[])|_=>ae,λ{d a o} h _ _ _ _ r=>by grind⟩
def aL(c:mS α):Arg (List α):=⟨c.sl,λd=>match kH c.k d with|some (n,es)=>aa (c.list n es,[c.fits n es])|none=>ae,λ{d a o} h b _ _ _ r=>by
 split at h
 .rename_i n es he;cases h;exact c.jS he b r
 .cases h⟩
def U7:Arg (Int×Bs):=⟨λx=>.e (.agg [.c (.int .i64 x.1),.c (.str x.2)]),λd=>match d with|.e (.agg [.c (.int .i64 a),.c (.str b)])=>aa ((a,b),[])|_=>ae,λ{d a o} h _ _ _ _ r=>by grind⟩
def U8:Arg (Int×Int):=⟨λx=>.e (.agg [.c (.int .i64 x.1),.c (.int .i64 x.2)]),λd=>match d with|.e (.agg [.c (.int .i64 a),.c (.int .i64 b)])=>aa ((a,b),[])|_=>ae,λ{d a o} h _ _ _ _ r=>by grind⟩
def FZ(c:mS α):Arg (Int×List α):=⟨λx=>.e (.agg [.c (.int .i64 x.1),.c (.sl af c.k x.2.length (c.fn x.2))]),λd=>match d with
 |.e (.agg [.c (.int .i64 a),.c b])=>match kH c.k (.e (.one (.c b)))with|some (n,es)=>aa ((a,c.list n es),[c.fits n es])|none=>ae
 |_=>ae,λ{d a o} h l _ s _ r=>by
 split at h
 .split at h
  .rename_i n es he;cases h;obtain⟨vs,p,g⟩:=r
   match vs,g with
   |[],g=>exact g.elim
   |[_],g=>exact g.2.elim
   |_::_::_::_,g=>exact g.2.2.elim
   |[q,m],g=>exact⟨_,p,g.1,c.jS (σ:=[]) (s:=s) (v:=m) he l g.2.1,ak⟩
  .cases h
 .cases h⟩
def kD(A:Arg α)(res:α->D)(pre:α->List Prop):dJ:=λargs σ=>match args,σ with
 |[d],[]=>match A.arg d with
  |some (a,o)=>aa (res a,[],lp o (pre a))
  |none=>ae
 |_,_=>ae
def pv{i:Type}(A:Arg α)(B:Arg i)(res:α->i->D)(pre:α->i->List Prop):dJ:=λargs σ=>match args,σ with
 |[d,e],[]=>match A.arg d with
  |some (a,o)=>match B.arg e with
   |some (b,p)=>aa (res a b,[],lp o (lp p (pre a b)))
   |none=>ae
  |none=>ae
 |_,_=>ae
def FV{i j:Type}(A:Arg α)(B:Arg i)(C:Arg j)(res:α->i->j->D)(pre:α->i->j->List Prop):dJ:=λargs σ=>match args,σ with
 |[d,e,f],[]=>match A.arg d with
  |some (a,o)=>match B.arg e with
   |some (b,p)=>match C.arg f with
    |some (c,q)=>aa (res a b c,[],lp o (lp p (lp q (pre a b c))))
    |none=>ae
   |none=>ae
  |none=>ae
 |_,_=>ae
section
variable {X:Cx P}{f:aH}{i j:Type}{A:Arg α}{B:Arg i}{C:Arg j}
def eh.pF{res:α->D}{pre:α->List Prop}(h:∀a,au (pre a)->Ev X f [A.enc a] [] (res a) []):eh X f (kD A res pre):=by
 intro args σ r σ' obs h1 ho;unfold kD at h1;split at h1
 .split at h1
  .rename_i d a o b;cases h1;rw[au.cat]at ho;exact(h a ho.2).args λs vs=>cp.imp (λ_ r=>A.ok b ho.1 r) (λ_ r=>r) vs
  .cases h1
 .cases h1
def eh.sI{res:α->i->D}{pre:α->i->List Prop}(h:∀a b,au (pre a b)->Ev X f [A.enc a,B.enc b] [] (res a b) []):eh X f (pv A B res pre):=by
 intro args σ r σ' obs h1 ho;unfold pv at h1;split at h1
 .split at h1
  .rename_i d e a o c;split at h1
   .rename_i b p g;cases h1;rw[au.cat,au.cat]at ho;exact(h a b ho.2.2).args λs vs=>cp.imp (λ_ r=>A.ok c ho.1 r) (cp.imp (λ_ r=>B.ok g ho.2.1 r) (λ_ r=>r)) vs
   .cases h1
  .cases h1
 .cases h1
def eh.LU{res:α->i->j->D}{pre:α->i->j->List Prop}(h:∀a b c,au (pre a b c)->Ev X f [A.enc a,B.enc b,C.enc c] [] (res a b c) []):eh X f (FV A B C res pre):=by
 intro args σ r σ' obs h1 ho;unfold FV at h1;split at h1
 .split at h1
  .rename_i d e g a o l;split at h1
   .rename_i b p m;split at h1
    .rename_i c q k;cases h1;rw[au.cat,au.cat,au.cat]at ho;exact(h a b c ho.2.2.2).args λs vs=>cp.imp (λ_ r=>A.ok l ho.1 r) (cp.imp (λ_ r=>B.ok m ho.2.1 r) (cp.imp (λ_ r=>C.ok k ho.2.2.1 r) (λ_ r=>r))) vs
    .cases h1
   .cases h1
  .cases h1
 .cases h1
end
namespace R1
def sr(a:List D)(res:D):dJ:=λargs σ=>match σ with|[]=>aa (res,[],[args=a])|_=>ae
def uG{X:Cx ag}{f:aH}{a:List D}{res:D}(h:Ev X f a [] res []):eh X f (sr a res):=by
 intro args σ r σ' obs he ho;unfold sr at he;split at he
 .cases he;have:args=a:=ho;subst this;exact h
 .cases he
def zR(a:List D)(σ0:List bg)(res:D)(σ1:List bg):dJ:=λargs σ=>aa (res,σ1,[args=a,σ=σ0])
def Dw{X:Cx ag}{f:aH}{a:List D}{σ0 σ1:List bg}{res:D}(h:Ev X f a σ0 res σ1):eh X f (zR a σ0 res σ1):=by intro args σ r σ' obs he ho;cases he;obtain⟨c,b⟩:args=a/\σ=σ0:=ho;subst c b;exact h
end R1
namespace R1
section
variable {X:Cx ag}
def LP(k:Int):Ev X 32 [dI k] [] (dB (b5 k)) []:=by
 refine Ev.bQ Tryz.func32 rfl λc=>?_;by_cases a:1<=k
 .by_cases b:k<=99
  .refine aW [(4,ab),(7,ab)] rfl ?_ (AK.bC rfl ?_)
   .simp[a,b]
   .simp[b5,a,b]
  .refine aW [(4,ab),(7,af)] rfl ?_ (AK.bC rfl ?_)
   .simp[a];omega
   .simp[b5,a,b]
 .refine aW [(4,af)] rfl ?_ (AK.bC rfl ?_)
  .simp;omega
  .simp[b5,a]
def t32:eh X 32 (kD aI (λk=>dB (b5 k)) λ_=>[]):=.pF λk _=>LP k
def BC{s:Bs}(h:i<s.length):cf (s.take (i+1))=(cf (s.take i)&&e9 (s.getD i 0)):=by unfold cf;grind[List.take_add_one]
def qh{b:UInt8}:e9 b=ab↔97<=(b.toNat:Int)/\(b.toNat:Int)<=122:=by simp[e9];omega
def x3{s:Bs}(h:i<s.length)(b:e9 (s.getD i 0)=af):cf s=af:=by
 cases a:cf s with
 |false=>rfl
 |true =>
  have:=bz.1 a (s.getD i 0) (by grind);grind
def Dq(s:Bs):Ev X 120 [dS s] [] (dB (cf s)) []:=by
 refine Ev.bQ Tryz.func120 rfl λg=>?_;have f:=g.str 0 rfl;refine bu rfl ak ?_;refine AK.xJ (λi=>i<=s.length/\cf (s.take i)=ab) (λi:Nat=>[(0,dS s),(5,dI s.length),(6,dI i)]) (λ_=>[]) (λi=>s.length-i) 0 rfl (by simp) ⟨by omega,by simp[cf]⟩ rfl ?_;rintro i ⟨hi,a⟩;by_cases h:i<s.length
 .by_cases b:cU s i<97
  .refine aW [(7,ab),(12,ab)] rfl ?_ (AK.iC (cz.zero rfl ?_))
   .simp[-aj,h,cY,b]
   .have:e9 (s.getD i 0)=af:=by
     cases d:e9 (s.getD i 0)with
     |false=>rfl
     |true=>have:=qh.1 d;unfold cU at b;omega
    simp[x3 h this]
  .by_cases c:cU s i<=122
   .refine aW [(7,ab),(12,af),(17,af)] rfl ?_ (AK.again (i+1) rfl ?_ ?_ ?_ rfl)
    .simp[-aj,h,cY,b,c,bE];grind
    .simp
    .refine⟨by omega,?_⟩;rw[BC h,a,fP];exact qh.2 (by unfold cU at b c;omega)
    .omega
   .refine aW [(7,ab),(12,af),(17,ab)] rfl ?_ (AK.iC (cz.zero rfl ?_))
    .simp[-aj,h,cY,b];grind
    .have:e9 (s.getD i 0)=af:=by
      cases d:e9 (s.getD i 0)with
      |false=>rfl
      |true=>have:=qh.1 d;unfold cU at c;omega
     simp[x3 h this]
 .have e:i=s.length:=by omega
  subst e;refine aW [(7,af)] rfl (by simp) (AK.leave rfl rfl ?_);refine bu rfl ak (AK.bC rfl ?_);rw[dt]at a;simp[a]
def Wt:eh X 120 (kD aS (λs=>dB (cf s)) λ_=>[]):=.pF λk _=>Dq k
abbrev tb1:List (Nat×dJ):=[(32,kD aI (λk=>dB (b5 k)) λ_=>[]),(120,kD aS (λs=>dB (cf s)) λ_=>[])]
def ZQ:bH X tb1:=.cons t32 (.cons Wt .nil)
def Dr(p:Bs):Ev X 136 [dS p] [] (dB (bA p)) []:=by
 refine Ev.bQ Tryz.func136 rfl λc=>?_;by_cases a:1<=p.length
 .by_cases b:p.length<=8
  .refine aU ZQ [(5,ab),(9,ab),(11,ab)] rfl ?_ (AK.bC rfl ?_)
   .simp;omega
   .simp[bA,a,b]
  .refine aU ZQ [(5,ab),(9,af),(11,af)] rfl ?_ (AK.bC rfl ?_)
   .simp;omega
   .simp[bA,a,b]
 .refine aU ZQ [(5,af),(11,af)] rfl ?_ (AK.bC rfl ?_)
  .simp;omega
  .simp[bA,a]
def t136:eh X 136 (kD aS (λs=>dB (bA s)) λ_=>[]):=.pF λk _=>Dr k
def Ds(n:Nat)(h:n<=4000000):Ev X 158 [dI n] [] (dI (cR n)) []:=by
 refine Ev.bQ Tryz.func158 rfl λd=>?_;by_cases c:n<1
 .refine aW [(5,ab),(9,ab)] rfl ?_ (AK.bC rfl ?_)
  .simp;omega
  .simp[cR,c]
 .by_cases b:8<n
  .refine aW [(5,af),(8,ab)] rfl ?_ (AK.bC rfl ?_)
   .simp;omega
   .simp[cR,b]
  .refine aW [(5,af),(8,af)] rfl ?_ ?_
   .simp;omega
   have e:cR n=2∨cR n=4∨cR n=8:=by unfold cR;grind
   refine AK.xJ (λi:Nat=>(i=2∨i=4∨i=8)/\i<=cR n) (λi:Nat=>[(0,dI n),(3,dI i)]) (λ_=>[]) (λi=>8-i) 2 rfl (by simp) ⟨by simp,by omega⟩ rfl ?_;rintro i ⟨hi,a⟩;by_cases h:i<n
   .refine aW [(12,ab)] rfl ?_ (AK.again (2*i) rfl ?_ ?_ ?_ rfl)
    .simp[bE];omega
    .simp;omega
    .unfold cR at a⊢;grind
    .omega
   .refine aW [(12,af)] rfl (by simp;omega) (AK.leave rfl rfl ?_);refine bu rfl ak (AK.bC rfl ?_);have:i=cR n:=by unfold cR at a⊢;grind
    simp[this]
theorem FR(s:Bs)(b:UInt8):strip (s++[b])=if b=46 then strip s else s++[b]:=by unfold strip;grind[List.dropWhile_cons]
def x4{s:Bs}(h:n<s.length):strip (s.take (n+1))=if s.getD n 0=46 then strip (s.take n)else s.take (n+1):=by grind[List.take_add_one,FR]
theorem Dt(s:Bs):Ev X 229 [dS s,dU 46] [] (dS (strip s)) []:=by
 refine Ev.bQ Tryz.func229 rfl λi=>?_;have g:=i.str 0 rfl;refine bu rfl ak ?_;refine AK.xJ (λn=>n<=s.length/\strip (s.take n)=strip s) (λn:Nat=>[(0,dS (s.take n)),(1,dU 46)]) (λ_=>[]) (λn=>n) s.length rfl (by simp) ⟨by omega,by simp⟩ rfl ?_;rintro n ⟨k,a⟩;cases n with
 |zero =>
  refine aW [(7,af),(16,af)] rfl ?_ (AK.leave rfl rfl ?_)
  .simp
  refine bu rfl ak (AK.bC rfl ?_);have:strip s=[]:=by rw[<-a];rfl
  simp[this]
 |succ n =>
  have h:(s.take (n+1)).length=n+1:=by grind
  have f:cU (s.take (n+1)) n=cU s n:=by simp[cU,aj,gL]
  have j:=x4 (s:=s) (n:=n) (by omega);have b:((n:Int)+1-1).toNat=n:=by omega
  by_cases d:s.getD n 0=46
  .refine aW [(7,ab),(15,ab),(16,ab)] rfl ?_ (AK.again n rfl ?_ ?_ ?_ rfl)
   .have c:cU s n=46:=by unfold cU;rw[d];rfl
    simp[-aj,-List.length_take,h,cY,b,f,c,bE];omega
   .simp;show(s.take (n+1)).take _=_;grind
   .grind
   .omega
  .refine aW [(7,ab),(15,af),(16,af)] rfl ?_ (AK.leave rfl rfl ?_)
   .have c:cU s n≠46:=by unfold cU;intro e;exact d (oH.1 (by grind))
    simp[-aj,-List.length_take,h,cY,b,f,c,bE];omega
   refine bu rfl ak (AK.bC rfl ?_);rw[j,aY d]at a;simp[a]
def Wu:dJ:=λargs σ=>match args,σ with
 |[.e (.one (.c (.str s))),.e (.one (.c (.int .u8 46)))],[]=>aa (dS (strip s),[],[])
 |_,_=>ae
def t229:eh X 229 Wu:=by intro args σ res σ' obs h _;unfold Wu at h;grind[Dt]
theorem PO(s:Bs):Ev X 212 [dS s,dS [46]] [] (dS (strip s)) []:=by
 refine Ev.bQ Tryz.func212 rfl λb=>?_;by_cases h:s=[]
 .subst h;refine aU (bH.cons t229 .nil) [(8,ab),(12,ab)] rfl ?_ (AK.bC rfl ?_)
  .simp
  .simp[strip]
 .refine aU (bH.cons t229 .nil) [(8,af),(11,af),(12,af),(16,ab),(20,ab),(21,ab)] rfl ?_ (AK.bC rfl)
  .cases s with
   |nil=>grind
   |cons a r=>simp;decide
def TB:dJ:=λargs σ=>match args,σ with
 |[.e (.one (.c (.str s))),.e (.one (.c (.str [46])))],[]=>aa (dS (strip s),[],[])
 |_,_=>ae
def t212:eh X 212 TB:=by intro args σ res σ' obs h _;unfold TB at h;grind[PO]
def vp{p:Bs}(h:i<p.length):codeOf (p.take (i+1))=27*codeOf (p.take i)+(cU p i-97) % 256+1:=by unfold codeOf;rw[lN,bn h];simp only[List.foldl_append,Option.toList_some,jN,List.foldl_nil,cU,aj,bn h,gv]
def kt{p:Bs}(h:bA p=ab)(hi:i<=p.length):0<=codeOf (p.take i)/\codeOf (p.take i)<282429536481:=by simp only[bA,bM,a9]at h;obtain⟨a,q2⟩:=x5 (p.take i) 0 1 0 (λb c=>hU h.2 b (fN c)) (by omega) (by omega) (by omega);have:=RJ (n:=(p.take i).length) (by grind);rw[Int.one_mul]at q2;exact⟨a,Int.lt_of_lt_of_le q2 this⟩
def x6{p:Bs}(h:i<p.length):p.getD i 0∈p:=by grind
abbrev tb2:List (Nat×dJ):=[(32,kD aI (λk=>dB (b5 k)) λ_=>[]),(136,kD aS (λs=>dB (bA s)) λ_=>[])]
def ub:bH X tb2:=.cons t32 (.cons t136 .nil)
abbrev ZT(n:Int):D:=.fD [.one (.c (.int .i64 n)),.one (.c .jk)]
def LS(k:Int)(p:Bs)(hk:b5 k=ab)(b:bA p=ab):Ev X 87 [dI k,dS p] [] (ZT (dC k p)) []:=by
 refine Ev.bQ Tryz.func87 rfl λo=>?_;have a:=b;simp only[bA,bM,a9]at a;have c:=hk;simp only[b5,bM,a9]at c;refine aU ub [(8,af),(13,af)] rfl (by simp[hk,b]) ?_;refine AK.xJ (λi=>i<=p.length) (λi:Nat=>[(0,dI k),(1,dS p),(6,dI (codeOf (p.take i))),(19,dI p.length),(20,dI i)]) (λ_=>[]) (λi=>p.length-i) 0 rfl (by simp[codeOf]) (by omega) rfl ?_;intro i hi;by_cases h:i<p.length
 .have f:=kt b hi;have q:=kt b (i:=i+1) (by omega);have e:=vp h;refine aW [(21,ab)] rfl ?_ (AK.again (i+1) rfl ?_ ?_ ?_ rfl)
  .simp only[au,cY,bE];simp[-aj,h,cY];have j:=hU a.2 (p.getD i 0) (x6 h);have d:97<=cU p i/\cU p i<=122:=by unfold cU;omega
   omega
  .have j:=hU a.2 (p.getD i 0) (x6 h);have d:97<=cU p i/\cU p i<=122:=by unfold cU;omega
   have g:(cU p i-97) % 256=cU p i-97:=Int.emod_eq_of_lt (by omega) (by omega);rw[g]at e;simp[-aj,cY,e]
  .grind
  grind
 .have e:i=p.length:=by omega
  subst e;have f:=rj b;refine aW [(21,af)] rfl (by simp) (AK.leave rfl rfl ?_);refine bu rfl ?_ (AK.bC rfl ?_)
  .rw[dt];have n:0<=codeOf p*(2*k+1):=Int.mul_nonneg f.1 (by omega);have l:codeOf p*(2*k+1)<=282429536481*199:=Int.mul_le_mul (by omega) (by omega) (by omega) (by omega);generalize codeOf p*(2*k+1)=m at n l;simp only[au,bE];simp;omega
  .rw[dt];refine au.cat.2 ⟨?_,au.cat.2 ⟨rfl,ak⟩⟩;show(_:Int)=_;rw[Int.mul_comm 7919 k];rfl
def t87:eh X 87 (pv aI aS (λk p=>ZT (dC k p)) λk p=>[b5 k=ab,bA p=ab]):=.sI λk p h=>LS k p h.1 h.2
def FU(h:o.op=.binOp op t x (.const .nilIface) ty){c:Bool}{p:Array (String×av)}(k:P.underlying t=aa (.interface p))(n:η x=.e (.one (.c .jk)))(q:η (.const .nilIface)=.e (.one (.c .jk)))(j:jv op ab=aa c):bL P o η σ (.e (.one (.c (.bool c)))) σ:=by
 refine .quiet λs m r l=>?_;have f:=l x;have d:=l (.const .nilIface);rw[n]at f;rw[q]at d;replace f:=fe f;replace d:=fe d;generalize a:m x=vx at f;generalize b:m (.const .nilIface)=vy at d;cases f;cases d;have i:(Op.equal t .nilIface .nilIface).run P s.w=.ok ab s.w:=by show(aZ (9999+1) t _ _).run P s.w=_;unfold aZ;simp[underlying,k]
 have g:∀es,(Op.equal t .nilIface .nilIface).events P s.w es=es:=λes=>by show(aZ (9999+1) t _ _).events P s.w es=es;unfold aZ;simp[underlying,k]
 cases op<;>simp only[jv,reduceCtorEq,dn]at j
 .subst j;exact⟨.bool ab,by simp[aq,h,a,b,eqGuard,binOp,i],Rd.bool,by simp[aq,h,a,b,eqGuard,binOp,i,g]⟩
 .subst j;exact⟨.bool af,by simp[aq,h,a,b,eqGuard,binOp,i],Rd.bool,by simp[aq,h,a,b,eqGuard,binOp,i,g]⟩
def IZ(k:Int)(p:Bs)(n:Int)(hk:b5 k=ab)(a:bA p=ab):Ev X 184 [dI k,dS p,dI n] [] (dB (dC k p==n)) []:=by
 refine Ev.bQ Tryz.func184 rfl λb=>?_;refine aU (bH.cons t87 .nil) [(17,ab)] rfl ?_ ?_
 .simp[hk,a]
 refine AK.law (FU rfl Tryz.underlying61 rfl rfl rfl) rfl rfl ?_;refine aU (bH.cons t87 .nil) [(17,ab)] rfl ?_ (AK.bC rfl ?_)
 .rfl
 .rfl
def t184:eh X 184 (FV aI aS aI (λk p n=>dB (dC k p==n)) λk p _=>[b5 k=ab,bA p=ab]):=.LU λk p n h=>IZ k p n h.1 h.2
abbrev n8:dJ:=kD aS (λp=>dS (eZ p)) λ_=>[]
abbrev BD(r:Option Bs):D:=.fD [.one (.c (.str (r.getD []))),.one (.c (.bool r.isSome))]
def FW(c:eh X 126 n8)(b:Bs):Ev X 183 [dS b] [] (BD (eK b)) []:=by
 refine Ev.bQ Tryz.func183 rfl λf=>?_;have e:bH X [(212,TB),(136,kD aS (λs=>dB (bA s)) λ_=>[]),(126,n8)]:=.cons t212 (.cons t136 (.cons c .nil));by_cases a:bA (strip b)=ab
 .by_cases d:eZ (strip b)=b
  .refine aU e [(10,af),(15,af)] rfl ?_ (AK.bC rfl ?_)
   .simp[a,d]
   .simp[eK,a,d]
  .refine aU e [(10,af),(15,ab)] rfl ?_ (AK.bC rfl ?_)
   .simp[a,d]
   .simp[eK,a,d]
 .refine aU e [(10,ab),(15,ab)] rfl ?_ (AK.bC rfl ?_)
  .simp[a]
  .simp[eK,a]
def Wv(a:eh X 126 n8):eh X 183 (kD aS (λb=>BD (eK b)) λ_=>[]):=.pF λb _=>FW a b
def x7{b p:Bs}(h:eK b=aa p):bA p=ab:=by unfold eK at h;grind
abbrev ZU(x:br):D:=U7.enc x
def LV(c:eh X 126 n8)(x:br)(k:Int)(hk:b5 k=ab):Ev X 145 [ZU x,dI k] [] (BD (chunk k x)) []:=by
 refine Ev.bQ Tryz.func145 rfl λg=>?_;have e:bH X [(183,kD aS (λb=>BD (eK b)) λ_=>[]),(184,FV aI aS aI (λk p n=>dB (dC k p==n)) λk p _=>[b5 k=ab,bA p=ab])]:=.cons (Wv c) (.cons t184 .nil);cases a:eK x.2 with
 |none =>
  refine aU e [(16,ab),(23,ab)] rfl ?_ (AK.bC rfl ?_)
  .simp[a]
  .simp[chunk,a]
 |some p =>
  have f:=x7 a;by_cases d:dC k p=x.1
  .refine aU e [(16,af),(23,af)] rfl ?_ (AK.bC rfl ?_)
   .simp[a,d,hk,f]
   .simp[chunk,a,d,hk]
  .refine aU e [(16,af),(23,ab)] rfl ?_ (AK.bC rfl ?_)
   .simp[a,d,hk,f]
   .simp[chunk,a,d,hk]
def LW(a:eh X 126 n8):eh X 145 (pv U7 aI (λx k=>BD (chunk k x)) λ_ k=>[b5 k=ab]):=.sI λx k h=>LV a x k h
def TD(x:br)(n:Int):Ev X 208 [ZU x,.e (.one (.c (.rp [.int .i64 n])))] [] (dB (x.1==n)) []:=by refine Ev.bQ Tryz.func208 rfl λa=>?_;exact bu rfl ak (AK.bC rfl)
def TE:dJ:=λargs σ=>match args,σ with
 |[.e (.agg [.c (.int .i64 a0),.c (.str a1)]),.e (.one (.c (.rp [.int .i64 n])))],[]=>aa (dB (a0==n),[],[a1=a1])
 |_,_=>ae
def t208:eh X 208 TE:=by
 intro args σ res σ' obs h c;unfold TE at h;split at h
 .rename_i b a n;cases h;exact TD (b,a) n
 grind
abbrev LX(n:Int):D:=.e (.one (.c (.fn (.func 208) [] [.rp [.int .i64 n]])))
def BE(l:List br)(n:Int):Int:=match l.findIdx? (λx=>x.1==n)with|some i=>i|none=>-1
def PR{t:List br}{n:Int}(hi:i<t.length)(h:(t.getD i (0,[])).1=n)(a:∀j,j<i->(t.getD j (0,[])).1≠n):BE t n=i:=by
 have:t.findIdx? (λf=>f.1==n)=aa i:=by
  rw[rQ];refine⟨hi,?_,λj b=>?_⟩
  .grind
  grind
 rw[BE,this]
def I0{t:List br}{n:Int}(a:∀j,j<t.length->(t.getD j (0,[])).1≠n):BE t n=-1:=by
 have:t.findIdx? (λf=>f.1==n)=ae:=by grind[List.getElem_of_mem]
 rw[BE,this]
def PS(t:List br)(n:Int):Ev X 207 [ei.sl t,LX n] [] (dI (BE t n)) []:=by
 refine Ev.bQ Tryz.func207 rfl λe=>?_;have c:=e.sl 0 rfl;have b:bH X [(208,TE)]:=.cons t208 .nil;refine ck b rfl ak ?_;refine AK.kq (λi=>i<=t.length/\∀j,j<i->(t.getD j (0,[])).1≠n) (λi:Nat=>[(0,ei.sl t),(1,LX n),(7,dI t.length),(8,dI i)]) (λ_=>[]) (λi=>t.length-i) 0 rfl ?_ rfl ak ⟨by omega,by omega⟩ ?_
 .simp
 rintro i ⟨hi,a⟩;by_cases h:i<t.length
 .by_cases d:(t.getD i (0,[])).1=n
  .refine aU b [(9,ab),(16,ab)] rfl ?_ (AK.iC (cz.zero rfl ?_))
   .simp only[au,b9];grind
   .simp[PR h d a]
  .refine aU b [(9,ab),(16,af)] rfl ?_ (AK.gg (i+1) rfl ?_ rfl ak ?_ ?_)
   .simp only[au,b9];exact⟨by simp only[bE];omega,ak,eF.2 d,by omega,by omega,de (by omega)⟩
   .simp
   .grind
   .omega
 .refine aU b [(9,af)] rfl (by simp;omega) (AK.leave rfl rfl ?_);refine ck b rfl ak (AK.bC rfl ?_);simp[I0 (λj f=>a j (by omega))]
def TG:dJ:=λargs σ=>match args,σ with
 |[d,.e (.one (.c (.fn (.func 208) [] [.rp [.int .i64 n]])))],[]=>match kH 2 d with
  |none=>ae
  |some (m,es)=>aa (dI (BE (ei.list m es) n),[],[ei.fits m es])
 |_,_=>ae
def t207:eh X 207 TG:=by
 intro args σ res σ' obs h a;unfold TG at h;split at h
 .rename_i d n;split at h
  .cases h
  rename_i m es hd;cases h;exact(PS _ n).args (λ_ vs=>cp.imp (λ_=>ei.jS hd a) (cp.imp (λ_ r=>r) (λ_ r=>r)) vs)
 grind
def FX(t:List br)(n:Int):(BE t n=-1/\t.find? (λx=>x.1==n)=ae)∨∃i:Nat,i<t.length/\BE t n=i/\t.find? (λx=>x.1==n)=aa (t.getD i (0,[])):=by unfold BE;grind[List.findIdx?_eq_some_iff_getElem,List.find?_eq_some_iff_getElem]
def FY(a:eh X 126 n8)(k:Int)(p:bG)(n:Int)(hk:b5 k=ab):Ev X 174 [dI k,LY p,dI n] [] (BD (ee k p n)) []:=by
 refine Ev.bQ Tryz.func174 rfl λg=>?_;have f:bH X [(207,TG),(145,pv U7 aI (λx k=>BD (chunk k x)) λ_ k=>[b5 k=ab])]:=.cons t207 (.cons (LW a) .nil);have d:ei.list p.2.length (ei.fn p.2)=p.2:=ei.list_fn _;refine qi [] 7 rfl ak ?_;refine AK.freeze 5 1 rfl rfl rfl ?_;rcases FX p.2 n with⟨b,c⟩|⟨i,hi,b,c⟩
 .refine aU f [(14,ab)] rfl ?_ (AK.bC rfl ?_)
  .simp only[au,d,b];exact⟨rfl,ei.aK _⟩
  .simp[ee,c]
 .refine aU f [(14,af)] rfl ?_ (AK.bC rfl ?_)
  .simp only[au,d,b];exact⟨hk,by omega,by omega,iM (by omega),ei.aK _⟩
  .have e:ee k p n=chunk k (p.2.getD i (0,[])):=by simp only[ee,c]
   rw[e,d,b];simp only[b9];exact au.cat.2 ⟨rfl,au.cat.2 ⟨rfl,ak⟩⟩
def TH(a:eh X 126 n8):eh X 174 (FV aI (FZ ei) aI (λk p n=>BD (ee k p n)) λk _ _=>[b5 k=ab]):=.LU λk p n h=>FY a k p n h
abbrev dQ(n:Int):D:=.e (.one (.c (.int .u64 n)))
def _root_.Go.AM.AW.HI{X:Cx P}{Q:Post}{x y:Code}(h:AW X N y Q φ σ):AW X N (.cond (.const (.bool af)) x y) Q φ σ:=by intro s a f hh b k cs S g j;refine .ctl hh rfl (λ_=>wv (t:=af) rfl) λi h1=>?_;exact h i a (f.rely h1 hh) (hh.rely h1) b k cs S g λe φ' σ' s' a' q c d st=>j e φ' σ' s' a' q c d (h1.stepW.trans st)
def _root_.Go.AM.AK.HI{P:aJ}{X:Cx P}{N:Nat}{Qf:Post}{K:List It}{φ:Fr}{σ:List bg}{x y:Code}(h:AK X N Qf (.code y::K) .normal φ σ):AK X N Qf (.code (.cond (.const (.bool af)) x y)::K) .normal φ σ:=AW.HI h
def FP{k l:IntKind}{a b:Int}(c:Int)(h:o.op=.binOp op t x y ty)(r:η x=.e (.one (.c (.int k a))))(u:η y=.e (.one (.c (.int l b))))(n:bE k c)(d:∀w,(binOp op t (.int k a) (.int l b)).run P w=.ok (.int k c) w)(m:∀w,(binOp op t (.int k a) (.int l b)).events P w #[]=#[]):
  bL P o η σ (.e (.one (.c (.int k c)))) σ:=by refine .quiet λs q v p=>?_;have i:=p x;have f:=p y;rw[r]at i;rw[u]at f;replace i:=fe i;replace f:=fe f;generalize g:q x=vx at i;generalize j:q y=vy at f;cases i;cases f;exact⟨.int k c,by simp only[aq,h,bT,g,j,hO,cu,d,dE],.int n,by simp[aq,h,g,j,hO,j8,d,m]⟩
def F1:Ev X 226 [dQ 1,dQ 2] [] (.fD [.one (.c (.int .u64 0)),.one (.c (.int .u64 2))]) []:=by refine Ev.bQ Tryz.func226 rfl λa=>?_;exact dk rfl (by simp[bE]) (AK.bC rfl)
def F2:Ev X 226 [dQ 1,dQ 3] [] (.fD [.one (.c (.int .u64 0)),.one (.c (.int .u64 3))]) []:=by refine Ev.bQ Tryz.func226 rfl λa=>?_;exact dk rfl (by simp[bE]) (AK.bC rfl)
def Ww:dJ:=λargs σ=>match args,σ with
 |[.e (.one (.c (.int .u64 1))),.e (.one (.c (.int .u64 c)))],[]=>aa (.fD [.one (.c (.int .u64 0)),.one (.c (.int .u64 c))],[],[c=2∨c=3])
 |_,_=>ae
def t226:eh X 226 Ww:=by
 intro args σ res σ' obs h a;unfold Ww at h;split at h
 .cases h;rcases a with rfl|rfl
  .exact F1
  .exact F2
 grind
def TK(c:Int)(a:c=2∨c=3):Ev X 201 [dQ 1,dQ c] [] (.fD [.one (.c (.int .u64 0)),.one (.c (.int .u64 c))]) []:=by
 refine Ev.bQ Tryz.func201 rfl λb=>?_;refine ck (bH.cons t226 .nil) rfl ak ?_;refine AK.HI ?_;refine ck (bH.cons t226 .nil) rfl ?_ (AK.bC rfl)
 .simp[a]
def TA:dJ:=λargs σ=>match args,σ with
 |[.e (.one (.c (.int .u64 1))),.e (.one (.c (.int .u64 c)))],[]=>aa (.fD [.one (.c (.int .u64 0)),.one (.c (.int .u64 c))],[],[c=2∨c=3])
 |_,_=>ae
def t201:eh X 201 TA:=by
 intro args σ res σ' obs h a;unfold TA at h;split at h
 .cases h;exact TK _ a
 grind
def me:∀(l:List UInt8)(c:UInt8),Lib.indexByte l c<l.length∨Lib.indexByte l c=-1
 |[],c=>.inr (by rw[Lib.indexByte.eq_def])
 |b::l,c=>by have a:=me l c;grind[Lib.indexByte.eq_def]
set_option maxRecDepth 20000 in
theorem Cb(s:Bs)(c:UInt8):Ev X 221 [dS s,dU c.toNat] [] (dI (Lib.indexByte s c)) []:=by
 refine Ev.bQ Tryz.func221 rfl λq=>?_;have z:=q.str 0 rfl;refine bu rfl ak ?_;refine AK.one (x:=dI (Lib.indexByte s c)) (σ':=[]) ?_ rfl ?_
 .refine OA.lL (λ_ _ _ _=>dM (by rfl)) ?_;refine bL.oM λst ρ r l=>?_;have p:=fe (l (.tmp 5));have n:=fe (l (.tmp 6));generalize h:ρ (.tmp 5)=v1 at p;generalize j:ρ (.tmp 6)=v2 at n;cases p with
  |str e1 l1 =>
  cases n with
  |int l2 =>
  have i:ρ (.func 234)=.func (.func 234) #[] #[]:=by
   have:=fe (l (.func 234));generalize ρ (.func 234)=v at this;cases this with
   |fn fs cs a b u B c1 c2 d1 d2 =>
    grind
  have f:(callFunc 234 #[.string ‹ByteArray›,.int .u8 c.toNat]).run ag st.w=.ok (.value (.int .i64 (Lib.indexByte s c))) st.w:=by rw[run_callFunc_extern Tryz.func234 (by kernel_rfl) (by kernel_rfl) (by kernel_rfl) (e:=Extern.BytealgIndexByte.indexByte) (by kernel_rfl),Lib.run_indexByteString];subst e1;simp
  have k:dj ag (Extern.BytealgIndexByte.indexByte #[.string ‹ByteArray›,.int .u8 c.toNat]):=by
   refine dj.bind (m:=Extern.Bytes.bytesOf (.string ‹ByteArray›)) (λ_ _=>rfl) λb=>dj.bind (m:=Extern.Bytes.asByte (.int .u8 c.toNat)) (λ_ _=>?_) λd=>?_
   .simp[Extern.Bytes.asByte]
   .skip
    split<;>exact .pure
  have g:=mx Tryz.func234 (by kernel_rfl) (by kernel_rfl) (by kernel_rfl) (e:=Extern.BytealgIndexByte.indexByte) (by kernel_rfl) _ k st.w #[];refine⟨.int .i64 (Lib.indexByte s c),?_,Rd.int ?_,?_⟩
  rotate_left 2
  .intro y o;simp[aq,resolve,Deferred.ofValue,invoke,h,j,i,g]at o;subst o;exact .inr ⟨_,rfl⟩
  .simp[aq,resolve,Deferred.ofValue,invoke,h,j,i,f]
  .have A:=Lib.indexByte_ge s c;have t:=me s c;simp only[bE];omega
 .exact bu rfl ak (AK.bC rfl)
def PQ(a:Int)(b:C)(n:Int):Ev X 44 [.e (.agg [.c (.int .i64 a),.c b]),.e (.one (.c (.rp [.int .i64 n])))] [] (dB (a==n)) []:=by refine Ev.bQ Tryz.func44 rfl λd=>?_;exact bu rfl ak (AK.bC rfl)
def ZR:dJ:=λargs σ=>match args,σ with
 |[.e (.agg [.c (.int .i64 a0),.c b]),.e (.one (.c (.rp [.int .i64 n])))],[]=>aa (dB (a0==n),[],[])
 |_,_=>ae
def t44:eh X 44 ZR:=by
 intro args σ res σ' obs h a;unfold ZR at h;split at h
 .cases h;exact PQ _ _ _
 .cases h
abbrev RI(n:Int):D:=.e (.one (.c (.fn (.func 44) [] [.rp [.int .i64 n]])))
def rL(l:List ff)(n:Int):Int:=match l.findIdx? (λx=>x.1==n)with|some i=>i|none=>-1
def LQ{t:List ff}{n:Int}(hi:i<t.length)(h:(t.getD i (0,[])).1=n)(a:∀j,j<i->(t.getD j (0,[])).1≠n):rL t n=i:=by
 have:t.findIdx? (λf=>f.1==n)=aa i:=by
  rw[rQ];refine⟨hi,?_,λj c=>?_⟩
  .simpa[aj,bn hi]using h
  .have b:j<t.length:=by omega
   simpa[aj,bn b]using a j c
 rw[rL,this]
def FT{t:List ff}{n:Int}(a:∀j,j<t.length->(t.getD j (0,[])).1≠n):rL t n=-1:=by
 have:t.findIdx? (λf=>f.1==n)=ae:=by rw[AB];intro f c;obtain⟨j,b,rfl⟩:=dD c;simpa[aj,bn b]using a j b
 rw[rL,this]
def LR(t:List ff)(n:Int):Ev X 43 [eX.sl t,RI n] [] (dI (rL t n)) []:=by
 refine Ev.bQ Tryz.func43 rfl λf=>?_;have e:=f.sl 0 rfl;have b:bH X [(44,ZR)]:=.cons t44 .nil;refine ck b rfl ak ?_;refine AK.kq (λi=>i<=t.length/\∀j,j<i->(t.getD j (0,[])).1≠n) (λi:Nat=>[(0,eX.sl t),(1,RI n),(7,dI t.length),(8,dI i)]) (λ_=>[]) (λi=>t.length-i) 0 rfl ?_ rfl ak ⟨by omega,by omega⟩ ?_
 .simp
 rintro i ⟨hi,a⟩;by_cases h:i<t.length
 .by_cases d:(t.getD i (0,[])).1=n
  .refine aU b [(9,ab),(16,ab)] rfl ?_ (AK.iC (cz.zero rfl ?_))
   .simp only[au,b9];exact⟨gw.2 d,by omega,by omega,de (by omega)⟩
   .simp[LQ h d a]
  .refine aU b [(9,ab),(16,af)] rfl ?_ (AK.gg (i+1) rfl ?_ rfl ak ?_ ?_)
   .simp only[au,b9];exact⟨by simp only[bE];omega,eF.2 d,by omega,by omega,de (by omega)⟩
   .simp
   .refine⟨by omega,λj c=>?_⟩;rcases wa.1 c with c|rfl
    .exact a j c
    .exact d
   .omega
 .refine aU b [(9,af)] rfl (by simp;omega) (AK.leave rfl rfl ?_);refine ck b rfl ak (AK.bC rfl ?_);simp[FT (λj c=>a j (by omega))]
def ZS:dJ:=λargs σ=>match args,σ with
 |[d,.e (.one (.c (.fn (.func 44) [] [.rp [.int .i64 n]])))],[]=>match kH 2 d with
  |none=>ae
  |some (m,es)=>aa (dI (rL (eX.list m es) n),[],[eX.fits m es])
 |_,_=>ae
def t43:eh X 43 ZS:=by
 intro args σ res σ' obs h a;unfold ZS at h;split at h
 .rename_i d n;split at h
  .cases h
  rename_i m es hd;cases h;exact(LR _ n).args (λ_ vs=>cp.imp (λ_=>eX.jS hd a) (cp.imp (λ_ r=>r) (λ_ r=>r)) vs)
 .cases h
def Du(t:List ff)(n:Int):(rL t n=-1/\t.find? (λx=>x.1==n)=ae)∨∃i:Nat,i<t.length/\rL t n=i/\t.find? (λx=>x.1==n)=aa (t.getD i (0,[])):=by
 unfold rL;cases h:t.findIdx? (λx=>x.1==n)with
 |none =>
  refine .inl ⟨rfl,?_⟩;rw[AB]at h;exact qE.2 λx d=>by simp[h x d]
 |some i =>
  rw[rQ]at h;obtain⟨hi,b,a⟩:=h;refine .inr ⟨i,hi,rfl,?_⟩;rw[AA];refine⟨?_,i,hi,?_,λj c=>?_⟩
  .simpa[aj,bn hi]using b
  .simp[aj,bn hi]
  .have:=a j c;simpa using this
def ud(b:Nat->Int):Nat->List C:=λi=>[.int .u8 (b i)]
def Bytes(b:Nat->Int):Prop:=∀i,0<=b i/\b i<=255
abbrev lF(m:Nat)(b:Nat->Int)(k:Int):bg:=.cells 98 [.c (.sl af 1 m (ud b)),.c (.int .i64 k)]
def ek.rN{f:aH}{fn:Func}{args:List D}{σ':ι->List bg}(d:Tryz.prog.funcs[f]?=aa fn)(a:(fn.name== "runtime.NumGoroutine")=af)(g:fn.body=aa c)(b:bD args.length fn.ntmps=ab)(h:Fits args σ->AK X fn.ntmps (λe φ σ1=>∃j,cz fn σ.length (res j) (σ' j) e φ σ1) [.code c] .normal (js 0 args) σ):ek X f args σ res σ' :=
 ek.Fx d a g b λi=>AW.top (AK.of_code (h i))
def AK.oe{fn:Func}{a:Nat}{σ':ι->List bg}(i:ι)(k:AK X N (cz fn a (res i) (σ' i)) K .normal φ σ):AK X N (λe φ σ1=>∃j,cz fn a (res j) (σ' j) e φ σ1) K .normal φ σ :=
 AK.jf (λ_ _ _ q=>⟨i,q⟩) k
def mQ(m:Nat)(b:Nat->Int)(k:Nat)(n:Int):Int :=
 if m=0 then 0 else if k<m then b k % n else
  ((b ((k:Int) % m).toNat*131+b (((k:Int)*7+3) % m).toNat*1117+k*29+(k:Int) / m*53).toNat ^^^ ((b ((k:Int) % m).toNat*131+b (((k:Int)*7+3) % m).toNat*1117+k*29+(k:Int) / m*53) / 64).toNat:Nat) % n
set_option maxRecDepth 20000 in
def En(m:Nat)(b:Nat->Int)(d:Bytes b)(k:Nat)(n:Int)(hk:k<=4000000)(s:m<=1048576)(o:1<=n/\n<=4000000):
  Ev X 19 [.e (.one (.ptr 0 0)),dI n] [lF m b k] (dI (mQ m b k n)) [lF m b (k+1)]:=by
 refine Ev.bQ Tryz.func19 rfl λl=>?_;have g:∀j,j<([lF m b k]:List bg).length->([0]:List Nat)[j]?=aa j:=λj y=>by grind
 by_cases f:m=0
 .subst f;refine aW [(17,af),(24,ab)] rfl ?_ (AK.cX [0] rfl ?_ rfl rfl rfl g)
  .simp[bE];omega
  .simp[mQ]
 have c:((k:Int)+1-1)=k:=by omega
 have h:((k:Int)+1-1).toNat=k:=by omega
 have i:=d k;by_cases x:(k:Int)<m
 .refine aW [(17,af),(24,af),(36,ab)] rfl ?_ (AK.cX [0] rfl ?_ rfl rfl rfl g)
  .simp only[au,c,b9,a9,bR,eF,bE];omega
  .have:k<m:=by omega
   simp[mQ,f,this]
 .refine bO [(17,af),(24,af),(36,af)] rfl ?_ (AK.cX [0] rfl ?_ rfl rfl rfl g)
  .simp only[au,c,bR,eF,bE];have a:(0:Int)<m:=by omega
   have z:=qK (k:Int) (by omega:(m:Int)≠0);have p:=qF (k:Int) a;have v1:=qK ((k:Int)*7+3) (by omega:(m:Int)≠0);have t:=qF ((k:Int)*7+3) a;have w1:0<=(k:Int) / m:=Int.ediv_nonneg (by omega) (by omega);have w2:(k:Int) / m<=k:=Int.ediv_le_self _ (by omega);generalize(k:Int) % m=u at *;generalize((k:Int)*7+3) % m=v at *;generalize(k:Int) / m=w at *;have q:=d u.toNat;have r:=d v.toNat;grind
  .have:¬k<m:=by omega
   simp[mQ,f,this,c]
def vD(m:Nat)(b:Nat->Int)(k:Nat)(n:Int)(a:1<=n):0<=mQ m b k n/\mQ m b k n<n:=by
 unfold mQ;split
 .omega
 .split
  .exact⟨qK _ (by omega),qF _ (by omega)⟩
  .exact⟨qK _ (by omega),qF _ (by omega)⟩
def gK(m:Nat)(b:Nat->Int)(d:Bytes b)(k:Nat)(n:Int)(hk:k<=4000000)(c:m<=1048576)(a:1<=n/\n<=4000000):
  ek (ι:={v:Int // 0<=v/\v<n}) X 19 [.e (.one (.ptr 0 0)),dI n] [lF m b k] (λv=>dI v.1) (λ_=>[lF m b (k+1)]):=by have h:=En (X:=X) m b d k n hk c a;exact⟨h.1,λs vs hr hh S cs hS=>h.2 s vs hr hh S cs (hS ⟨_,vD m b k n a.1⟩)⟩
def Um(es:Nat->List C):Nat->Int:=λi=>ya (es i) 0
def c19:dJ:=λargs σ=>match args,σ with
 |[.e (.one (.ptr 0 0)),.e (.one (.c (.int .i64 n)))],[.cells 98 [.c (.sl af 1 m es),.c (.int .i64 k)]] =>
  aa (dI (mQ m (Um es) k.toNat n),[lF m (Um es) (k+1)],[k=k.toNat,es=ud (Um es),Bytes (Um es),k<=4000000,m<=1048576,1<=n,n<=4000000])
 |_,_=>ae
def t19:eh X 19 c19:=by
 intro args σ res σ' obs h c;unfold c19 at h;split at h
 .rename_i n m es k;cases h;obtain⟨g,f,a,i,d,b,e⟩:=c;have:=En (X:=X) m (Um es) a k.toNat n (by omega) d ⟨b,e⟩;grind
 grind
def Ca:∀j,j<1->([0]:List Nat)[j]?=aa j:=λj a=>by grind
set_option maxRecDepth 20000 in
def M9(m:Nat)(b:Nat->Int)(d:Bytes b)(k:Nat)(hk:k<=4000000)(c:m<=1048576)(l:List Bs)(g:1<=l.length/\l.length<=1000):
  ek (ι:={p:Bs // p∈l}) X 103 [.e (.one (.ptr 0 0)),cS.sl l] [lF m b k] (λp=>dS p.1) (λ_=>[lF m b (k+1)]):=by
 refine ek.rN Tryz.func103 rfl rfl rfl λf=>?_;refine bu rfl ak ?_;refine AK.cP (gK m b d k l.length hk c (by omega)) [0] rfl (λ_=>rfl) ?_;rintro⟨v,v0,v1⟩;refine bu rfl ?_ ?_
 .simp;omega
 have a:l.getD v.toNat cS.b8∈l:=by grind
 refine AK.oe ⟨l.getD v.toNat cS.b8,a⟩ (AK.cX [0] rfl ?_ rfl rfl rfl Ca);simp
def Na:List Bs:=[[],[102],[97,47],[97,98],[97,47,98,47,99],[47,97]]
def Nb:List Bs:=[[97],[98],[99,47,97],[99,47,98],[100,47,97],[101],[97,47,98],[100]]
set_option maxRecDepth 20000 in
def wP(m:Nat)(b:Nat->Int)(d:Bytes b)(k:Nat)(hk:k<=100000)(c:m<=1048576):
  ek (ι:={p:Bs // p.length<=8}) X 51 [.e (.one (.ptr 0 0))] [lF m b k] (λp=>dS p.1) (λ_=>[lF m b (k+1+1)]):=by
 refine ek.rN Tryz.func51 rfl rfl rfl λf=>?_;refine bu rfl ak ?_;refine AK.cP (gK m b d k 40 (by omega) c (by omega)) [0] rfl (λ_=>rfl) ?_;rintro⟨v,v0,v1⟩;by_cases h:v=0
 .refine aW [(5,ab)] rfl ?_ ?_
  .simp[h]
  have:=M9 (X:=X) m b d (k+1) (by omega) c Na (by decide);refine AK.jB this [0] rfl rfl rfl rfl ?_ rfl rfl rfl (λ_=>rfl) rfl (λ_=>rfl) rfl ?_
  .refine⟨rfl,λi hi=>?_⟩;rcases i with _|_|_|_|_|_|i<;>first|rfl|omega
  rintro⟨p,a⟩;refine bu rfl ak (AK.oe ⟨p,(by decide:∀p∈Na,p.length<=8) p a⟩ (AK.cX [0] rfl ?_ rfl rfl rfl Ca));simp
 .refine aW [(5,af)] rfl ?_ ?_
  .simp[h]
  have:=M9 (X:=X) m b d (k+1) (by omega) c Nb (by decide);refine AK.jB this [0] rfl rfl rfl rfl ?_ rfl rfl rfl (λ_=>rfl) rfl (λ_=>rfl) rfl ?_
  .refine⟨rfl,λi hi=>?_⟩;rcases i with _|_|_|_|_|_|_|_|i<;>first|rfl|omega
  rintro⟨p,a⟩;refine bu rfl ak (AK.oe ⟨p,(by decide:∀p∈Nb,p.length<=8) p a⟩ (AK.cX [0] rfl ?_ rfl rfl rfl Ca));simp
def words:List Bs:=[[97,98,99],[104,101,108,108,111],[119,111,114,108,100],[97,97,97,97],[107,101,101,112],[122,122],[98,97,99,107,117,112],[113]]
abbrev Xf(k:Nat):={q:Bs×Nat // q.1.length<=100000/\k<=q.2/\q.2<=k+60}
def H8(s:Bs)(n:Int)(c:s.length<=10)(g:0<=n/\n<=100):ek (ι:={p:Bs // p.length<=100000}) X 104 [dS s,dI n] [] (λp=>dS p.1) (λ_=>[]):=by
 refine ek.rN Tryz.func104 rfl rfl rfl λf=>?_;refine bu rfl ak ?_;refine AK.kq (λx:Nat×Bs×Bs=>x.1<=100/\x.2.2.length+x.2.1.length*x.1<=1010) (λx=>[(0,dS x.2.1),(1,dI x.1),(5,dS x.2.2)]) (λ_=>[]) (λx=>x.1) (n.toNat,s,[]) rfl ?_ rfl ak ⟨by grind,?_⟩ ?_
 .simp;omega
 .have:s.length*n.toNat<=10*100:=Nat.mul_le_mul c (by omega);grind
 rintro⟨k,t,out⟩ ⟨d,b⟩;simp only at d b;by_cases hk:0<k
 .have j:t.length<=t.length*k:=wc _ hk;have i:((k:Int) / 2)=((k / 2:Nat):Int):=by omega
  by_cases h:k % 2=1
  .have a:(t++t).length*(k / 2)+t.length=t.length*k:=by
    have e:k=2*(k / 2)+1:=by omega
    grind
   refine aW [(7,ab),(10,ab)] rfl ?_ (AK.gg (k / 2,t++t,out++t) rfl ?_ rfl ak ?_ ?_)
   .simp[hk];omega
   .simp
   .grind
   grind
  .have a:(t++t).length*(k / 2)=t.length*k:=by
    have e:k=2*(k / 2):=by omega
    grind
   refine aW [(7,ab),(10,af)] rfl ?_ (AK.gg (k / 2,t++t,out) rfl ?_ rfl ak ?_ ?_)
   .simp[hk];omega
   .simp
   .grind
   grind
 .obtain rfl:k=0:=by omega
  refine aW [(7,af)] rfl (by simp) (AK.leave rfl rfl ?_);exact bu rfl ak (AK.oe ⟨out,by omega⟩ (AK.bC rfl))
set_option maxRecDepth 20000 in
def H9(m:Nat)(b:Nat->Int)(c:Bytes b)(k:Nat)(hk:k<=100000)(d:m<=1048576):
  ek (ι:=Xf k) X 52 [.e (.one (.ptr 0 0))] [lF m b k] (λq=>dS q.1.1) (λq=>[lF m b q.1.2]):=by
 refine ek.rN Tryz.func52 rfl rfl rfl λt=>?_;refine bu rfl ak ?_;refine AK.cP (gK m b c k 5 (by omega) d (by omega)) [0] rfl (λ_=>rfl) ?_;rintro⟨v,v0,v1⟩;refine bu rfl ak ?_;refine AK.cJ 1 (λs:Nat×Bs×Nat=>s.1<=4/\s.2.1.length+6*s.1<=24/\k<=s.2.2/\s.2.2+s.1<=k+5) (λs=>[(0,.e (.one (.ptr 0 0))),(4,dI s.1),(3,dS s.2.1)]) (λs=>[lF m b s.2.2]) (λs=>s.1) (v.toNat,[],k+1) rfl ?_ rfl ?_ rfl ⟨by omega,by grind,by simp,by grind⟩ ?_
 .simp;omega
 .simp
 rintro⟨n,s,k1⟩ ⟨G,B,o,C⟩;simp only at G B o C;by_cases j:0<n
 .refine aW [(9,ab)] rfl ?_ ?_
  .simp[j]
  have:=M9 (X:=X) m b c k1 (by omega) d words (by decide);refine AK.jB this [0] rfl rfl rfl rfl ?_ rfl rfl rfl (λ_=>rfl) rfl (λ_=>rfl) rfl ?_
  .refine⟨rfl,λi hi=>?_⟩;rcases i with _|_|_|_|_|_|_|_|i<;>first|rfl|omega
  rintro⟨p,h⟩;have H:p.length<=6:=(by decide:∀p∈words,p.length<=6) p h;refine bu rfl ?_ (AK.aQ (n-1,s++p,k1+1) rfl ?_ ?_ ?_ ?_)
  .simp[bE];omega
  .simp;omega
  .simp
  .grind
  grind
 .obtain rfl:n=0:=by omega
  refine aW [(9,af)] rfl (by simp) (AK.leaveD rfl rfl ?_);refine bu rfl ak ?_;refine AK.cP (gK m b c k1 4 (by omega) d (by omega)) [0] rfl (λ_=>rfl) ?_;rintro⟨u,L,I⟩;by_cases l:u=0
  .refine aW [(19,ab)] rfl (by simp[l]) ?_;refine AK.cP (gK m b c (k1+1) 12 (by omega) d (by omega)) [0] rfl (λ_=>rfl) ?_;rintro⟨w,w0,w1⟩;refine bu rfl ak ?_;refine AK.cJ 1 (λs:Nat×Bs×Nat=>s.1<=11/\s.2.1.length+s.1<=36/\k<=s.2.2/\s.2.2+s.1<=k+20) (λs=>[(0,.e (.one (.ptr 0 0))),(5,dI s.1),(3,dS s.2.1)]) (λs=>[lF m b s.2.2]) (λs=>s.1) (w.toNat,s,k1+2) rfl ?_ rfl ?_ rfl ⟨by omega,by grind,by grind,by grind⟩ ?_
   .simp;omega
   .simp;omega
   rintro⟨n,s2,f⟩ ⟨A,E,r,F⟩;simp only at A E r F;by_cases j:0<n
   .refine aW [(23,ab)] rfl ?_ ?_
    .simp[j]
    refine AK.cP (gK m b c f 26 (by omega) d (by omega)) [0] rfl (λ_=>rfl) ?_;rintro⟨x,J,K⟩;refine bu rfl ?_ (AK.aQ (n-1,s2++[UInt8.ofNat (97+x).toNat],f+1) rfl ?_ ?_ ?_ ?_)
    .simp[bE];omega
    .simp;omega
    .simp
    .grind
    grind
   .obtain rfl:n=0:=by omega
    refine aW [(23,af)] rfl (by simp) (AK.leaveD rfl rfl ?_);refine aW [(36,af)] rfl ?_ ?_
    .simp;omega
    refine AK.cP (gK m b c f 60 (by omega) d (by omega)) [0] rfl (λ_=>rfl) ?_;rintro⟨y,z,D⟩;by_cases g:y=0
    .refine aW [(41,ab)] rfl ?_ (AK.oe ⟨(s2++[65],f+1),by grind,by grind,by grind⟩ (AK.cX [0] rfl ?_ rfl rfl rfl Ca))
     .simp[g];omega
     .simp
    by_cases a:y=1
    .refine aW [(41,af),(45,ab)] rfl ?_ ?_
     .simp[a]
     refine AK.cP (H8 [97,98,99,100,101] 9 (by decide) (by decide)) [] rfl (λ_=>rfl) ?_;rintro⟨p,h⟩;refine bu rfl ak (AK.oe ⟨(p,f+1),h,by grind,by grind⟩ (AK.cX [0] rfl ?_ rfl rfl rfl Ca));simp
    .refine aW [(41,af),(45,af)] rfl ?_ (AK.oe ⟨(s2,f+1),by grind,by grind,by grind⟩ (AK.cX [0] rfl ?_ rfl rfl rfl Ca))
     .simp[g,a]
     .simp
  .refine qi [(19,af)] 2 rfl (by simp[l]) ?_;refine aW [(36,af)] rfl ?_ ?_
   .simp;omega
   refine AK.cP (gK m b c (k1+1) 60 (by omega) d (by omega)) [0] rfl (λ_=>rfl) ?_;rintro⟨y,z,D⟩;by_cases g:y=0
   .refine aW [(41,ab)] rfl ?_ (AK.oe ⟨(s++[65],(k1+1)+1),by grind,by grind,by grind⟩ (AK.cX [0] rfl ?_ rfl rfl rfl Ca))
    .simp[g];omega
    .simp
   by_cases a:y=1
   .refine aW [(41,af),(45,ab)] rfl ?_ ?_
    .simp[a]
    refine AK.cP (H8 [97,98,99,100,101] 9 (by decide) (by decide)) [] rfl (λ_=>rfl) ?_;rintro⟨p,h⟩;refine bu rfl ak (AK.oe ⟨(p,(k1+1)+1),h,by grind,by grind⟩ (AK.cX [0] rfl ?_ rfl rfl rfl Ca));simp
   .refine aW [(41,af),(45,af)] rfl ?_ (AK.oe ⟨(s,(k1+1)+1),by grind,by grind,by grind⟩ (AK.cX [0] rfl ?_ rfl rfl rfl Ca))
    .simp[g,a]
    .simp
def Qv(m:Nat)(b:Nat->Int)(a:m<=1048576):ek (ι:={n:Nat // n<=1048576}) X 17 [.e (.one (.c (.sl af 1 m (ud b))))] [] (λ_=>.e (.one (.ptr 0 0))) (λn=>[lF n.1 b 0]):=by
 refine ek.rN Tryz.func17 rfl rfl rfl λf=>?_;by_cases h:2000<m
 .refine aW [(5,ab)] rfl ?_ (AK.norm [lF 2000 b 0] rfl ?_ (AK.oe ⟨2000,by decide⟩ (AK.cX [0] rfl ?_ rfl rfl rfl (λj d=>by grind))))
  .simp;omega
  .simp[cE,my,dm]
  .simp
 .refine aW [(5,af)] rfl ?_ (AK.oe ⟨m,a⟩ (AK.cX [0] rfl ?_ rfl rfl rfl (λj d=>by grind)))
  .simp;omega
  .simp
def UE:∀j,j<1->([0]:List Nat)[j]?=aa j:=by decide
def vJ:∀j,j<2->([0,1]:List Nat)[j]?=aa j:=by decide
def ue:List br->List ai
 |[]=>[]
 |x::r=>.int .i64 x.1::Cw x.2::ue r
def kE(l:List br):Prop:=∀x∈l,bE .i64 x.1/\x.2.length<=9223372036854775807
theorem wQ:∀l:List br,(ue l).length=l.length*2
 |[]=>rfl
 |x::r=>by simp only[ue,fb,wQ r];omega
def NF:∀{l:List br}{i:Nat},i<l.length->(ue l)[i*2]?=aa (.int .i64 (l.getD i (0,[])).1)/\(ue l)[i*2+1]?=aa (Cw (l.getD i (0,[])).2)
 |[],i,h=>absurd h (fy _)
 |x::r,0,_=>⟨rfl,rfl⟩
 |x::r,i+1,h=>by rw[show(i+1)*2=i*2+1+1 by omega];exact NF (l:=r) (i:=i) (by grind)
def Ck:∀l r:List br,ue (l++r)=ue l++ue r
 |[],r=>rfl
 |x::l,r=>by simp only[sS,ue,Ck l r]
theorem Ih:∀(l:List br)(i:Nat)(y:br),i<l.length->ue (l.set i y)=(ue l).take (i*2)++[.int .i64 y.1,Cw y.2]++(ue l).drop (i*2+2)
 |[],i,y,h=>absurd h (fy _)
 |x::l,0,y,_=>by simp[ue]
 |x::l,i+1,y,h=>by rw[List.set_cons_succ,ue,Ih l i y (by grind),ue,show(i+1)*2=i*2+1+1 by omega,show i*2+1+1+2=(i*2+2)+1+1 by omega];simp
theorem yW{l:List br}(h:kE l):gE 2 l.length (ei.fn l) (ue l):=by
 refine⟨wQ l,λi _=>rfl,λi hi j c a=>?_⟩;obtain⟨f,d⟩:=NF hi;obtain⟨b,q2⟩:=h (l.getD i (0,[])) (by grind);have e:ei.fn l i=[.int .i64 (l.getD i (0,[])).1,.str (l.getD i (0,[])).2]:=rfl;rw[e]at a
 match j,a with
 |0,a=>cases a;exact⟨_,f,λM=>Rd.int b⟩
 |1,a=>cases a;exact⟨_,d,λM=>Rd.str (by grind) q2⟩
abbrev vZ(v:ai):D:=.e (.one (.c (.val v)))
abbrev hB(bf:nL)(n:Nat)(l:List br):bg:=.cj (gk 82 2 bf n (ue l))
abbrev cB(g:Nat)(bf:nL)(n:Nat):bg:=.cj (dZ g 180 (lK bf n))
abbrev Vf(x:br):D:=.e (.one (.c (.J0 82 [.int .i64 x.1,.str x.2])))
abbrev Yn(x:br):D:=.e (.agg [.c (.int .i64 x.1),.c (.str x.2)])
theorem UF{x:br}(h:nC vs [.c (.int .i64 x.1),.c (.str x.2)]):vs=[.int .i64 x.1,Cw x.2]:=by
 obtain⟨g,a⟩:=h
 match vs,g with
 |[u,v],_ =>
  obtain⟨i,f,q2⟩:=a 0 _ rfl;obtain⟨v',d,q4⟩:=a 1 _ rfl;cases f;cases d;have b:=q2 λ_ _=>ae;have e:=(str_val (q4 λ_ _=>ae)).1;cases b;rw[e]
def UG(h:o.op=.call {callee:=.builtin .append,args:=#[x,y],argTypes:=#[180,180]}):lW ag o x y 82 i82 :=
 ⟨⟨180,180,i180,i180,h,(tok _ _ rfl),rfl,(tok _ _ rfl),rfl⟩,(tok _ _ rfl),by decide,by decide⟩
def Cl(bf:nL)(n:Nat)(l:List br):Ev X 127 [vZ (lK bf n)] [hB bf n l] (dI n) [hB bf n l]:=by refine Ev.bQ Tryz.func127 rfl λa=>?_;refine qi [] 7 rfl ak ?_;refine AK.OU tok 0 rfl rfl rfl rfl rfl rfl rfl rfl ?_;exact bu rfl ak (AK.cX [0] rfl rfl rfl rfl rfl UE)
def yX(b cap:Nat){l:List br}(d:kE l)(m:Nat)(hi:i<l.length)(c:j<l.length):Ev X 268 [vZ (lK (.row b cap) l.length),dI i,dI j] [hB (.row b cap) l.length l] (dB (decide ((l.getD i (0,[])).1<(l.getD j (0,[])).1))) [hB (.row b cap) l.length l]:=by
 refine Ev.bQ Tryz.func268 rfl λe=>?_
 have a:=yW d;refine aW [(1000001,ab)] rfl ak ?_;refine AK.calm ju [vZ (lK (.row b cap) l.length),dI i,vZ (.pointer (aa ⟨b,0+(i:Int).toNat*2,ae⟩)),vZ (.pointer (aa ⟨b,0+(i:Int).toNat*2+0,ae⟩)),dI (l.getD i (0,[])).1,vZ (lK (.row b cap) l.length),dI j,vZ (.pointer (aa ⟨b,0+(j:Int).toNat*2,ae⟩)),vZ (.pointer (aa ⟨b,0+(j:Int).toNat*2+0,ae⟩)),dI (l.getD j (0,[])).1,dB (decide ((l.getD i (0,[])).1<(l.getD j (0,[])).1))] 10 rfl rfl rfl rfl rfl ⟨
  OA.c8 tok bH.nil rfl,OA.c8 tok bH.nil rfl,OA.eval (ds:=[]) tok bH.nil rfl (by simp only[au,aD];omega),OA.c8 tok bH.nil rfl,
  OA.lL (fQ rfl) (bL.Dh (l:=0) (i:=i) (f:=0) tok rfl rfl (by simp) rfl a rfl rfl hi),
  OA.c8 tok bH.nil rfl,OA.c8 tok bH.nil rfl,OA.eval (ds:=[]) tok bH.nil rfl (by simp only[au,aD];omega),OA.c8 tok bH.nil rfl,
  OA.lL (fQ rfl) (bL.Dh (l:=0) (i:=j) (f:=0) tok rfl rfl (by simp) rfl a rfl rfl c),
  OA.c8 tok bH.nil rfl,ak⟩ ?_
 exact bu rfl ak (AK.cX [0] rfl rfl rfl rfl rfl UE)
def Ii{cap:Nat}{l:List br}{v:br}(h:o.op=.store t x y)(g:bJ tt t=aa i82)(f:off=i*2)(a:bS φ x=.e (.one (.v (.pointer (aa ⟨b,off,ae⟩)))))(d:kR (bS φ y)=aa [.c (.int .i64 v.1),.c (.str v.2)])(j:l.length=n)(hi:i<l.length)(m:o.guard=ae):
  OA X N all o φ [hB (.row b cap) n l] .any [hB (.row b cap) n (l.set i v)]:=by subst f;have p:=eg.AT (N:=N) (σ:=[hB (.row b cap) n l]) tok 0 (E:=82) (k:=2) (n:=n) (b:=b) (cap:=cap) (off:=i*2) (xs:=ue l) h g a d rfl rfl rfl (by grind[wQ]);grind[UF,Ih,OA.xG]
abbrev swS(b cap:Nat)(l:List br)(i j:Nat)(x y:Bool):List bg:=match x with
 |false=>[hB (.row b cap) l.length l]
 |true=>match y with
  |false=>[hB (.row b cap) l.length (l.set i (l.getD j (0,[])))]
  |true=>[hB (.row b cap) l.length (mU l i j)]
def yY(b cap:Nat){l:List br}(e:kE l)(hi:i<l.length)(d:j<l.length):Ev X 271 [vZ (lK (.row b cap) l.length),dI i,dI j] [hB (.row b cap) l.length l] (.fD []) [hB (.row b cap) l.length (mU l i j)]:=by
 refine Ev.bQ Tryz.func271 rfl λg=>?_;have a:=yW e;refine aW [(1000000,ab)] rfl ak ?_;let xs:Nat->D:=λk=>([vZ (lK (.row b cap) l.length),dI i,vZ (lK (.row b cap) l.length),dI j,vZ (lK (.row b cap) l.length),dI j,vZ (.pointer (aa ⟨b,0+(j:Int).toNat*2,ae⟩)),Yn (l.getD j (0,[])),vZ (lK (.row b cap) l.length),dI i,vZ (.pointer (aa ⟨b,0+(i:Int).toNat*2,ae⟩)),Yn (l.getD i (0,[])),vZ (.pointer (aa ⟨b,0+(i:Int).toNat*2,ae⟩)),.any,vZ (.pointer (aa ⟨b,0+(j:Int).toNat*2,ae⟩))]:List D).getD k .any
 refine AK.flags ju xs (xV (swS b cap l i j) 13 15) rfl rfl rfl rfl ⟨
  .RD tok bH.nil,.RD tok bH.nil,.RD tok bH.nil,.RD tok bH.nil,.RD tok bH.nil,.RD tok bH.nil,
  .Wi tok bH.nil,
  en.fw rfl rfl rfl rfl (OA.lL (fQ rfl) (bL.Dh (l:=0) (i:=j) (f:=0) tok rfl rfl (by simp) rfl a rfl rfl d)),
  .RD tok bH.nil,.RD tok bH.nil,
  .Wi tok bH.nil,
  en.fw rfl rfl rfl rfl (OA.lL (fQ rfl) (bL.Dh (l:=0) (i:=i) (f:=0) tok rfl rfl (by simp) rfl a rfl rfl hi)),
  .Wi tok bH.nil,
  en.sA rfl rfl ?_,
  .Wi tok bH.nil,
  en.sB rfl rfl ?_,ak⟩ ?_
 .exact Ii rfl rfl (by simp) rfl rfl rfl hi rfl
 .exact Ii rfl rfl (by simp) rfl rfl (by simp) (by grind) rfl
 intro D c;show AK X _ _ _ _ _ (swS b cap l i j (D 13) (D 15));rw[c 13 (by decide),c 15 (by decide)];exact cz.qb [0] rfl ak rfl rfl rfl UE
def NG(g:Nat)(bf:nL){l:List br}(r:kE l)(o:l.length<=1000){x:br}(p:x.2.length<=9223372036854775807):
  ek (ι:=nL) X 270 [vZ (.pointer (aa ⟨g,0,ae⟩)),Vf x] [cB g bf l.length,hB bf l.length l] (λ_=>.fD []) (λa=>[cB g a (l.length+1),hB a (l.length+1) (l++[x])]):=by
 refine ek.rN Tryz.func270 rfl rfl rfl λq=>?_;refine aW [(1000000,ab)] rfl ak ?_;have f:=nS bf l.length;refine AK.Lm (ι:=nL) ju 7 8 10 (λk=>bD k 6) (λk=>([vZ (.pointer (aa ⟨g,0,ae⟩)),vZ (.pointer (aa ⟨g,0,ae⟩)),vZ (.pointer (aa ⟨g,0,ae⟩)),vZ (lK bf l.length),Vf x,Yn x,.e (.one (.c (.sl ab 2 1 λi=>([[.int .i64 x.1,.str x.2]]:List (List C)).getD i [])))]:List D).getD k .any) (λa _=>vZ (lK a (l.length+1))) (λa=>[cB g bf l.length,.cj (gk 82 2 a (l.length+1) (ue l++[.int .i64 x.1,Cw x.2]))])
  rfl rfl rfl rfl rfl rfl rfl (λk h=>by have:=dr h;omega) rfl
  ⟨OA.c8 tok bH.nil rfl,OA.c8 tok bH.nil rfl,OA.lL (fQ rfl) (bL.Dg rfl rfl),OA.zL tok 0 rfl rfl rfl rfl rfl f rfl,OA.c8 tok bH.nil rfl,OA.lL (fQ rfl) (bL.Bu (cs:=[.int .i64 x.1,.str x.2]) tok rfl rfl rfl rfl),OA.c8 tok bH.nil rfl,ak,ak,ak,ak⟩
  (λa=>⟨OA.c8 tok bH.nil rfl,OA.c8 tok bH.nil rfl,OA.lL (fQ rfl) (bL.Dg rfl rfl),OA.zL tok 0 rfl rfl rfl rfl rfl f rfl,OA.c8 tok bH.nil rfl,OA.lL (fQ rfl) (bL.Bu (cs:=[.int .i64 x.1,.str x.2]) tok rfl rfl rfl rfl),OA.c8 tok bH.nil rfl,ak,ak⟩)
  (m9.xG rfl (eg.oN (l:=1) (bf:=bf) (xs:=ue l) (n:=l.length) (xv:=[.int .i64 x.1,Cw x.2]) (UG rfl) rfl rfl rfl rfl rfl (λM v j c b m=>?_) (by show _*24<=_;omega))) λa=>?_
 .match j,b with
  |0,b=>cases b;cases m;exact⟨rfl,rfl⟩
  |1,b=>grind[str_val]
 have d:=nS a (l.length+1);refine AK.law (bL.Dg rfl rfl) rfl rfl ?_;refine AK.Lu tok 0 rfl rfl rfl rfl rfl (by cases a<;>rfl) d rfl rfl rfl ?_;refine bu rfl ak ?_;refine⟨a,cz.qb [0,1] rfl ak ?_ rfl rfl vJ⟩;show aa [_,bg.cj (gk _ _ _ _ (ue l++_))]=aa [_,bg.cj (gk _ _ _ _ (ue (l++[x])))];rw[Ck];rfl
def gk.cut{cap:Nat}{l:List br}{x:br}{ch:Nat->Option Obj}(h:gk E 2 (.row b cap) (l.length+1) (ue (l++[x])) v ch):gk E 2 (.row b cap) l.length (ue l) v ch:=by
 obtain⟨h1,h2,e,g,c,d,f,i⟩:=h;rw[Ck]at *;refine⟨h1,λy a=>h2 y (List.mem_append_left _ a),wQ l,by omega,c,ue [x]++d,?_,?_⟩
 .grind
 grind
def QQ(g b cap:Nat){l:List br}{x:br}(k:kE (l++[x]))(d:l.length<=1000)(a:l.length+1<=cap):
  Ev X 269 [vZ (.pointer (aa ⟨g,0,ae⟩))] [cB g (.row b cap) (l.length+1),hB (.row b cap) (l.length+1) (l++[x])] (Vf x) [cB g (.row b cap) l.length,hB (.row b cap) l.length l]:=by
 refine Ev.bQ Tryz.func269 rfl λe=>?_;have c:gE 2 (l.length+1) (ei.fn (l++[x])) (ue (l++[x])):=by grind[yW,List.length_append]
 refine bu rfl ak ?_;refine AK.law (bL.Dg rfl rfl) rfl rfl ?_;refine AK.one (OA.zL tok 0 rfl rfl rfl rfl rfl rfl rfl) rfl ?_;refine bu rfl (by simp only[au,bE,aD];omega) ?_;refine AK.law (bL.Dg rfl rfl) rfl rfl ?_;refine AK.one (OA.zL tok 0 rfl rfl rfl rfl rfl rfl rfl) rfl ?_;refine bu rfl (by simp only[au,bE,aD];omega) ?_;refine AK.law (bL.Dh (l:=1) (i:=l.length) (f:=0) tok rfl rfl (by simp[show i82.size=2 from rfl]) rfl c rfl rfl (by simp)) rfl rfl ?_;refine bu rfl ak ?_;refine AK.law (bL.Dg rfl rfl) rfl rfl ?_;refine AK.one (OA.zL tok 0 rfl rfl rfl rfl rfl rfl rfl) rfl ?_;refine bu rfl ak ?_;refine AK.law (bL.Tm tok rfl rfl rfl rfl rfl rfl a (by omega) (by omega)) rfl rfl ?_;rw[show(((l.length+1:Nat):Int)-1).toNat=l.length from by omega];refine AK.law (bL.Dg rfl rfl) rfl rfl ?_;refine AK.Lu tok 0 rfl rfl rfl rfl rfl rfl rfl rfl rfl rfl ?_;refine qi [] 2 rfl ak ?_;refine AK.OS (ι:=Unit) 1 (λ_=>gk 82 2 (.row b cap) l.length (ue l)) rfl (λv j h=>⟨(),gk.cut h⟩) λ_=>?_;refine bu rfl ak (AK.cX [0,1] rfl ?_ rfl rfl rfl vJ);simp
abbrev Vg(g:Nat):D:=.e (.one (.c (.ifs 179 (.val (.pointer (aa ⟨g,0,ae⟩))))))
section
variable {σ:List bg}{l g n:Nat}{bf:nL}(a:dF l σ=aa (cB g bf n))
include a
def Xx:rJ ag σ 179 (.pointer (aa ⟨g,0,ae⟩)) "Len" 127 (lK bf n):=.deref tok (eJ Tryz.type179) rfl rfl rfl Tryz.underlying179 a rfl (nS bf n) rfl
def NH:rJ ag σ 179 (.pointer (aa ⟨g,0,ae⟩)) "Less" 268 (lK bf n):=.deref tok (eJ Tryz.type179) rfl rfl rfl Tryz.underlying179 a rfl (nS bf n) rfl
def NI:rJ ag σ 179 (.pointer (aa ⟨g,0,ae⟩)) "Swap" 271 (lK bf n):=.deref tok (eJ Tryz.type179) rfl rfl rfl Tryz.underlying179 a rfl (nS bf n) rfl
end
def Xy{σ:List bg}{v:ai}:rJ ag σ 179 v "Push" 270 v:=.ptr (eJ Tryz.type179) rfl rfl rfl Tryz.underlying179
def aaF{σ:List bg}{v:ai}:rJ ag σ 179 v "Pop" 269 v:=.ptr (eJ Tryz.type179) rfl rfl rfl Tryz.underlying179
theorem u6{l:List br}(h:kE l){i j:Nat}(hi:i<l.length)(b:j<l.length):kE (mU l i j):=λx c=>h x (P8 hi b c)
theorem yZ:∀(f:Nat)(l:List br)(j:Nat),j<f->y8 f l j=y8 (j+1) l j
 |0,_,_,h=>absurd h (fy _)
 |f+1,l,j,h=>by
  rw[y8,y8];by_cases b:(j-1) / 2=j
  .grind
  .rw[aY b,aY b];split
   .have c:(j-1) / 2<j:=by omega
    rw[yZ f _ _ (by omega),yZ j _ _ c]
   .rfl
def UH(g b cap:Nat){l:List br}(a:kE l)(x:l.length<=1000){j:Nat}(t:j<l.length):
  Ev X 156 [Vg g,dI j] [cB g (.row b cap) l.length,hB (.row b cap) l.length l] (.fD []) [cB g (.row b cap) l.length,hB (.row b cap) l.length (y8 (j+1) l j)]:=by
 refine Ev.bQ Tryz.func156 rfl λy=>?_;refine qi [] 3 rfl ak ?_;refine AK.tv 2 [0] (λq:List br×Nat=>kE q.1/\q.1.length=l.length/\q.2<l.length/\y8 (j+1) l j=y8 (q.2+1) q.1 q.2) (λq=>[(1,dI q.2)]) (λq=>[cB g (.row b cap) q.1.length,hB (.row b cap) q.1.length q.1]) (λq=>q.2) (l,j) rfl ?_ rfl ?_ rfl ⟨a,rfl,t,rfl⟩ ?_
 .simp
 .simp
 rintro⟨q,i⟩ ⟨r,p,s,d⟩;simp only at r p s d;cases i with
 |zero =>
  have e:y8 (0+1) q 0=q:=by rw[y8,bo rfl]
  rw[e]at d;rw[d];refine qi [] 5 rfl (by simp[bE]) ?_;refine AK.law (FP (k:=.i64) 0 rfl rfl rfl (by simp[bE]) (λw=>rfl) (λw=>rfl)) rfl rfl ?_;refine aW [(11,ab),(17,ab)] rfl (by simp) (AK.leaveD rfl rfl ?_);exact cz.qb [0,1] rfl ak (by rw[<-p];rfl) rfl rfl vJ
 |succ i =>
  refine aW [(11,af),(1000001,ab)] rfl (by simp only[au,bE];omega) ?_;have u:(((i+1:Nat):Int)-1) / 2=((i / 2:Nat):Int):=by omega
  rw[u];have v:(i+1-1) / 2=i / 2:=by grind
  have m:i / 2<q.length:=by omega
  have c:i+1<q.length:=by omega
  have e:y8 (i+1+1) q (i+1)=if oa q (i+1) (i / 2)=ab then y8 (i+1) (mU q (i / 2) (i+1)) (i / 2)else q:=by rw[y8,aY (by omega),v]
  rw[e]at d;refine AK.region ?_;refine aW [(11,af)] rfl (by simp only[au,eF,dz,aD];omega) ?_;refine AK.lb (yX b cap r q.length c m).sH [1] (NH (l:=0) rfl) rfl rfl rfl rfl rfl rfl rfl rfl (λ_=>rfl) rfl (λ_=>rfl) rfl λ_=>?_;by_cases o:oa q (i+1) (i / 2)=ab
  .rw[bo o]at d;have f:=gM o;refine aW [(17,af)] rfl (by simpa using f) ?_;refine AK.lb (yY b cap r m c).sH [1] (NI (l:=0) rfl) rfl rfl rfl rfl rfl rfl rfl rfl (λ_=>rfl) rfl (λ_=>rfl) rfl λ_=>?_;refine bu rfl ak (AK.aQ (mU q (i / 2) (i+1),i / 2) rfl ?_ ?_ ?_ ?_)
   .simp
   .simp[gn]
   .grind [u6,gn,yZ]
   grind
  .rw[aY o]at d;rw[d];have f:¬(q.getD (i+1) (0,[])).1<(q.getD (i / 2) (0,[])).1:=λh=>o (de h);refine aW [(17,ab)] rfl (by simpa using f) (AK.leaveD rfl rfl ?_);exact cz.qb [0,1] rfl ak (by rw[<-p];rfl) rfl rfl vJ
def NJ{σ:List bg}{i n:Nat}{bf:nL}{l:List br}(h:dF i σ=aa (hB bf n l))(e:0<n)(s:St)(d:aE σ s):∃b cap,bf=.row b cap/\n<=cap:=by
 have a:=b7 h;obtain⟨b,cap,rfl⟩:=(gk.len a s d).2.2.1 e;have c:i<s.β.length:=by rw[d.len];grind
 obtain⟨j,f,_⟩:=d.box i _ _ a (bn c);exact⟨b,cap,rfl,f.2.2.2.1⟩
def EE(g:Nat)(bf:nL){l:List br}(a:kE l)(p:l.length<=100){x:br}(k:bE .i64 x.1/\x.2.length<=9223372036854775807):
  ek (ι:=nL) X 125 [Vg g,Vf x] [cB g bf l.length,hB bf l.length l] (λ_=>.fD []) (λc=>[cB g c (l.length+1),hB c (l.length+1) (hZ l x)]):=by
 refine ek.rN Tryz.func125 rfl rfl rfl λq=>?_;refine bu rfl ak ?_;refine AK.lb (NG g bf a (by omega) k.2) [0,1] Xy rfl rfl rfl rfl rfl rfl rfl rfl (λ_=>rfl) rfl (λ_=>rfl) rfl λc=>?_;have d:kE (l++[x]):=λy m=>by
  rcases fz.1 m with h|h
  .exact a y h
  grind
 refine AK.Kn (NJ (i:=1) (n:=l.length+1) (bf:=c) (l:=l++[x]) rfl (by omega)) λo=>?_;obtain⟨b,cap,rfl,e⟩:=o;refine bu rfl ak ?_;refine AK.lb (Cl (.row b cap) (l.length+1) (l++[x])).sH [1] (Xx (l:=0) rfl) rfl rfl rfl rfl rfl rfl rfl rfl (λ_=>rfl) rfl (λ_=>rfl) rfl λ_=>?_;refine bu rfl (by simp only[au,bE];omega) ?_;rw[show((l.length+1:Nat):Int)-1=(l.length:Nat) by omega];have f:=UH (X:=X) g b cap d (by grind) (j:=l.length) (by simp);rw[cW,iK]at f;refine AK.cQ f [0,1] rfl ?_;refine bu rfl ak ?_;exact⟨.row b cap,cz.qb [0,1] rfl ak rfl rfl rfl vJ⟩
theorem tV:∀(f g:Nat)(l:List br)(i n:Nat),n<=i+f->n<=i+g->gZ f l i n=gZ g l i n
 |0,0,_,_,_,_,_=>rfl
 |0,g+1,l,i,n,h,_=>by rw[gZ,gZ,bo (by omega)]
 |f+1,0,l,i,n,_,h=>by rw[gZ,gZ,bo (by omega)]
 |f+1,g+1,l,i,n,c,b=>by
  have hk:i<oc l i n:=by unfold oc;split<;>omega
  rw[gZ,gZ];split
  .rfl
  .split
   .exact tV f g _ _ _ (by omega) (by omega)
   .rfl
def NK(g b cap n:Nat){l:List br}(a:kE l)(z:n<=l.length)(A:l.length<=1000):
  Ev X 159 [Vg g,dI 0,dI n] [cB g (.row b cap) l.length,hB (.row b cap) l.length l] .any [cB g (.row b cap) l.length,hB (.row b cap) l.length (gZ n l 0 n)]:=by
 refine Ev.bQ Tryz.func159 rfl λB=>?_;refine dk rfl ak ?_;refine AK.tv 2 [0,1,2] (λq:List br×Nat=>kE q.1/\q.1.length=l.length/\q.2<=n/\gZ n l 0 n=gZ n q.1 q.2 n) (λq=>[(7,dI q.2)]) (λq=>[cB g (.row b cap) q.1.length,hB (.row b cap) q.1.length q.1]) (λq=>n-q.2) (l,0) rfl ?_ rfl ?_ rfl ⟨a,rfl,by omega,rfl⟩ ?_
 .simp
 .simp
 rintro⟨q,i⟩ ⟨p,r,w,d⟩;simp only at p r w d;by_cases u:n<=2*i+1
 .have e:gZ n q i n=q:=by rw[tV n (n+1) _ _ _ (by omega) (by omega),gZ,bo u]
  rw[e]at d;rw[d];refine aW [(17,ab),(21,ab)] rfl (by simp only[au,bE,a9,aF,aD];omega) (AK.leaveD rfl rfl ?_);refine bu rfl ak (AK.cX [0,1] rfl ak (by rw[<-r];rfl) rfl rfl vJ)
 have hk:i<oc q i n/\oc q i n<n:=by unfold oc;split<;>omega
 have e:gZ n q i n=if oa q (oc q i n) i=ab then gZ n (mU q i (oc q i n)) (oc q i n) n else q:=by rw[tV n (n+1) _ _ _ (by omega) (by omega),gZ,aY u]
 rw[e]at d;have s:2*i+1<q.length:=by omega
 have o:i<q.length:=by omega
 have v1:2*(i:Int)+1=((2*i+1:Nat):Int):=by omega
 have v:((2*i+1:Nat):Int)+1=((2*i+2:Nat):Int):=by omega
 refine aW [(17,af),(21,af),(1000004,ab)] rfl (by simp only[au,bE,bR,aF,aD];omega) ?_;rw[v1];refine aW [(1000006,ab)] rfl (by simp only[au,bE,bR,aF,aD];omega) ?_;rw[v];apply AK.join [(0,Vg g),(1,dI 0),(2,dI n),(7,dI i),(9,dI (oc q i n))] [cB g (.row b cap) q.length,hB (.row b cap) q.length q]
 .intro out;by_cases t:2*i+2<n
  .refine AK.region ?_;refine aW [(28,ab)] rfl (by simp only[au,a9,aD];omega) ?_;refine AK.lb (yX b cap p q.length (i:=2*i+2) (j:=2*i+1) (by omega) s).sH [1] (NH (l:=0) rfl) rfl rfl rfl rfl rfl rfl rfl rfl (λ_=>rfl) rfl (λ_=>rfl) rfl λ_=>?_;by_cases c:oa q (2*i+2) (2*i+1)=ab
   .have m:oc q i n=2*i+2:=bo ⟨t,c⟩;refine aW [(33,ab),(1000008,ab)] rfl (by simpa using gM c) (out _ _ rfl ?_);simp[m]
   .have m:oc q i n=2*i+1:=aY λh=>c h.2;have f:¬(q.getD (2*i+2) (0,[])).1<(q.getD (2*i+1) (0,[])).1:=λh=>c (de h);refine aW [(33,af),(1000008,ab)] rfl (by simpa using f) (out _ _ rfl ?_);simp[m]
  .have m:oc q i n=2*i+1:=aY λh=>t h.1;refine aW [(28,af),(33,af),(1000008,ab)] rfl (by simp only[au,bR,aF,aD];omega) (out _ _ rfl ?_);simp[m]
 generalize oc q i n=k at *;obtain⟨y,x⟩:=hk;refine AK.region ?_;refine bu rfl ak ?_;refine AK.lb (yX b cap p q.length (i:=k) (j:=i) (by omega) o).sH [1] (NH (l:=0) rfl) rfl rfl rfl rfl rfl rfl rfl rfl (λ_=>rfl) rfl (λ_=>rfl) rfl λ_=>?_;by_cases c:oa q k i=ab
 .rw[bo c]at d;refine aW [(39,af)] rfl (by simpa using gM c) ?_;refine AK.lb (yY b cap p o (show k<q.length by omega)).sH [1] (NI (l:=0) rfl) rfl rfl rfl rfl rfl rfl rfl rfl (λ_=>rfl) rfl (λ_=>rfl) rfl λ_=>?_;refine bu rfl ak (AK.aQ (mU q i k,k) rfl ?_ ?_ ?_ ?_)
  .simp
  .simp[gn]
  .grind [u6,gn]
  grind
 .rw[aY c]at d;rw[d];have f:¬(q.getD k (0,[])).1<(q.getD i (0,[])).1:=λh=>c (de h);refine aW [(39,ab)] rfl (by simpa using f) (AK.leaveD rfl rfl ?_);refine bu rfl ak (AK.cX [0,1] rfl ak (by rw[<-r];rfl) rfl rfl vJ)
def y0{n:Nat}:∀(f:Nat){l:List br}(i:Nat),kE l->i<l.length->n<=l.length->kE (gZ f l i n)
 |0,_,_,h,_,_=>h
 |f+1,l,i,h,hi,b=>by
  rw[gZ];split
  .exact h
  .have hk:oc l i n<n:=by unfold oc;split<;>omega
   split
   .exact y0 f _ (u6 h hi (by omega)) (by grind[gn]) (by grind[gn])
   grind
def GC(g b cap:Nat){l:List br}{n:Nat}(a:kE l)(m:l.length=n+1)(q:n<=100)(f:n+1<=cap):
  Ev X 128 [Vg g] [cB g (.row b cap) (n+1),hB (.row b cap) (n+1) l] (Vf ((kW l).getD n (0,[]))) [cB g (.row b cap) n,hB (.row b cap) n ((kW l).take n)]:=by
 refine Ev.bQ Tryz.func128 rfl λs=>?_;refine bu rfl ak ?_;refine AK.lb (Cl (.row b cap) (n+1) l).sH [1] (Xx (l:=0) rfl) rfl rfl rfl rfl rfl rfl rfl rfl (λ_=>rfl) rfl (λ_=>rfl) rfl λ_=>?_;refine bu rfl (by simp only[au,bE,aD];omega) ?_;rw[show((n+1:Nat):Int)-1=((n:Nat):Int) by omega];have o:=yY (X:=X) b cap a (i:=0) (j:=n) (by omega) (by omega);rw[m]at o;refine AK.lb o.sH [1] (NI (l:=0) rfl) rfl rfl rfl rfl rfl rfl rfl rfl (λ_=>rfl) rfl (λ_=>rfl) rfl λ_=>?_;have d:=u6 a (i:=0) (j:=n) (by omega) (by omega);have h:=NK (X:=X) g b cap n d (by grind[gn]) (by grind[gn]);have c:=y0 (n:=n) n 0 d (by grind[gn]) (by grind[gn]);have e:gZ n (mU l 0 n) 0 n=kW l:=by unfold kW;grind[tV]
 rw[gn,m,e]at h;rw[e]at c;have p:kW l=(kW l).take n++[(kW l).getD n (0,[])]:=by
  have t:(kW l).length=n+1:=by grind[DJ]
  apply sR
  .grind
  grind
 generalize(kW l).getD n (0,[])=x at *;have k:((kW l).take n).length=n:=by grind
 generalize(kW l).take n=r at *;rw[p]at h c;subst k;refine bu rfl ak ?_;refine AK.cQ h [0,1] rfl ?_;refine bu rfl ak ?_;refine AK.lb (QQ g b cap c (by omega) f).sH [0,1] aaF rfl rfl rfl rfl rfl rfl rfl rfl (λ_=>rfl) rfl (λ_=>rfl) rfl λ_=>?_;refine bu rfl ak (AK.cX [0,1] rfl (by simp) rfl rfl rfl vJ)
def Q9{T:av}(h:o.op=.binOp op t x y ty){c:Bool}{r:Array (String×av)}(m:P.underlying t=aa (.interface r))(q:η x=.e (.one (.c .jk)))(u:η y=.e (.one (.c (.val (.iface T v)))))(b:∀w,(eqGuard op t x y .nilIface (.iface T v)).run P w=.ok () w)(g:∀w es,(eqGuard op t x y .nilIface (.iface T v)).events P w es=es)(l:jv op af=aa c):bL P o η σ (.e (.one (.c (.bool c)))) σ:=by
 refine .quiet λs p z n=>?_;have i:=n x;have f:=n y;rw[q]at i;rw[u]at f;replace i:=fe i;replace f:=fe f;generalize a:p x=vx at i;generalize d:p y=vy at f;cases i;cases f;have k:(Op.equal t .nilIface (.iface T v)).run P s.w=.ok af s.w:=by show(aZ (9999+1) t _ _).run P s.w=_;unfold aZ;simp[underlying,m]
 have j:∀es,(Op.equal t .nilIface (.iface T v)).events P s.w es=es:=λes=>by show(aZ (9999+1) t _ _).events P s.w es=es;unfold aZ;simp[underlying,m]
 cases op<;>simp only[jv,reduceCtorEq,dn]at l
 .subst l;exact⟨.bool af,by simp[aq,h,a,d,b,binOp,k],Rd.bool,by simp[aq,h,a,d,b,g,binOp,k,j]⟩
 .subst l;exact⟨.bool ab,by simp[aq,h,a,d,b,binOp,k],Rd.bool,by simp[aq,h,a,d,b,g,binOp,k,j]⟩
abbrev dGv(v:ai):D:=.e (.one (.c (.val v)))
def ER(T:av)(v:ai):Ev X 88 [.e (.one (.c .jk)),dGv (.iface T v)] [] (dB af) []:=by refine Ev.bQ Tryz.func88 rfl λa=>?_;refine bu rfl ak ?_;refine AK.law (FU rfl Tryz.underlying61 rfl rfl rfl) rfl rfl ?_;refine aW [(11,ab)] rfl (by simp) ?_;refine AK.law (Q9 rfl Tryz.underlying61 rfl rfl (λ_=>rfl) (λ_ _=>rfl) rfl) rfl rfl ?_;exact bu rfl ak (AK.bC rfl rfl)
abbrev GB(a b:av×ai):List bg:=[.cj (dZ 1 61 (.iface a.1 a.2)),.cj (dZ 2 61 (.iface b.1 b.2))]
def Cj:∀j,j<2->([0,1]:List Nat)[j]?=aa j:=by decide
def u5(a b:av×ai)(k:Int)(p:Bs)(hk:b5 k=ab)(c:bA p=ab):Ev X 37 [dI k,dS p] (GB a b) (dI (dC k p)) (GB a b):=by refine Ev.bQ Tryz.func37 rfl λd=>?_;have c1:bH X [(87,pv aI aS (λk p=>ZT (dC k p)) λk p=>[b5 k=ab,bA p=ab])]:=.cons t87 .nil;refine ck c1 rfl (by simp[hk,c]) ?_;refine AK.one (OA.K8 tok 0 rfl rfl rfl rfl rfl rfl) rfl ?_;refine AK.cQ (ER _ _) [] rfl ?_;refine ck c1 rfl ak ?_;refine AK.one (OA.K8 tok 1 rfl rfl rfl rfl rfl rfl) rfl ?_;refine AK.Po (ER _ _) [] rfl rfl rfl rfl rfl rfl rfl rfl rfl rfl rfl ?_;exact aU c1 [(20,af)] rfl (by simp) (AK.cX [0,1] rfl rfl rfl rfl rfl Cj)
end
section
open Go.Proofs Go.Conc Go.Conc.Lib
open Go.ConcN (WgLive PayAt Has RW AtR0)
open Go.ConcR (KK WgAt stA smA rd wr mk Payload DC0)
instance pay:Payload:=⟨214⟩
def mH(f:Int):dJ:=λargs σ=>match args,σ with
 |[.e (.one (.c (.int .i64 k))),g,.e (.one (.c (.int .i64 n)))],[]=>match kH 2 g with
  |none=>ae
  |some (b,d)=>aa (Yk (dg k (cP.list b d) n),[],[cP.fits b d,k=f])
 |_,_=>ae
noncomputable def RO:Code:=(Tryz.f139.body).getD .skip
noncomputable def Mb:Array aC:=match RO with|.seq (.region _ o _) _=>o|_=>#[]
noncomputable def Mc:Array aC:=match RO with|.seq _ (.region _ o _)=>o|_=>#[]
def Md:Tryz.f139.body=aa (.seq (.region 0 Mb af) (.region 1 Mc ab)):=by kernel_rfl
def oW(d:Option Nat)(op:Op)(ty:av)(b:Array Edge):aC:={dst:=d,op:=op,type:=ty,pos:= "l12_snap.go:82",after:=b,guard:=ae}
def vS:List aC:=[oW (aa 6) (.load 201 (.tmp 4)) 201 #[],oW (aa 7) (.load 3 (.tmp 5)) 3 #[],oW (aa 8) (.load 3 (.tmp 1)) 3 #[],oW (aa 9) (.load 23 (.tmp 2)) 23 #[],oW (aa 10) (.load 3 (.tmp 3)) 3 #[],
 oW (aa 11) (.call {callee:=.value (.func 141),args:=#[.tmp 8,.tmp 9,.tmp 10],argTypes:=#[3,23,3]}) 214 #[⟨2,.data⟩,⟨3,.data⟩,⟨4,.data⟩],
 oW (aa 12) (.indexAddr 201 (.tmp 6) (.tmp 7)) 0 #[⟨0,.data⟩,⟨1,.data⟩,⟨0,.phase⟩,⟨1,.phase⟩,⟨2,.phase⟩,⟨3,.phase⟩,⟨4,.phase⟩,⟨5,.phase⟩],
 oW ae (.store 214 (.tmp 12) (.tmp 11)) 0 #[⟨6,.data⟩,⟨5,.data⟩,⟨5,.chain⟩,⟨0,.phase⟩,⟨1,.phase⟩,⟨2,.phase⟩,⟨3,.phase⟩,⟨4,.phase⟩,⟨5,.phase⟩]]
def PY:Mc=vS.toArray:=by kernel_rfl
def oZ(h:vS[i]?=aa o):i<8:=(bX.1 h).1
section
variable (k:Int)(ps:List bG)(a:Int)(n x C:Nat)
def Wy(b:ai):Fr:=[(0,.e (.one (.v b))),(1,.e (.one (.c (.rp [.int .i64 k])))),(2,.e (.one (.c (.rp [.sl af 2 ps.length (cP.fn ps)])))),(3,.e (.one (.c (.rp [.int .i64 a])))),(4,.e (.one (.c (.rp [.val (.slice (aa ⟨C,0,ae⟩) n n)])))),(5,.e (.one (.c (.rp [.int .i64 x]))))]
def xW:Nat->D
 |0=>.e (.one (.v (.slice (aa ⟨C,0,ae⟩) n n)))
 |1=>dI x
 |2=>dI k
 |3=>cP.sl ps
 |4=>dI a
 |5=>Yk (dg k ps a)
 |6=>.e (.one (.v (.pointer (aa ⟨C,x*2,ae⟩))))
 |_=>.any
def F4:Nat->Option Nat
 |6=>aa 0|7=>aa 1|8=>aa 2|9=>aa 3|10=>aa 4|11=>aa 5|12=>aa 6|_=>ae
def frW(b:ai):Nat->Fr
 |5=>[(8,dI k),(9,cP.sl ps),(10,dI a)]
 |6=>[(6,.e (.one (.v (.slice (aa ⟨C,0,ae⟩) n n)))),(7,dI x)]
 |_=>Wy k ps a n x C b
end
def PZ{X:Cx ag}{n x C:Nat}(f:x<n):OA X 13 vS (oW (aa 12) (.indexAddr 201 (.tmp 6) (.tmp 7)) 0 #[⟨0,.data⟩,⟨1,.data⟩,⟨0,.phase⟩,⟨1,.phase⟩,⟨2,.phase⟩,⟨3,.phase⟩,⟨4,.phase⟩,⟨5,.phase⟩]) [(6,.e (.one (.v (.slice (aa ⟨C,0,ae⟩) n n)))),(7,dI x)] [] (.e (.one (.v (.pointer (aa ⟨C,x*2,ae⟩))))) []:=by
 refine .lL (λ_ _ _ _=>dM rfl) (bL.quiet λs j m h=>?_);have c:=h (.tmp 6);have b:=h (.tmp 7);have l:bS [(6,D.e (.one (.v (.slice (aa ⟨C,0,ae⟩) n n)))),(7,dI x)] (.tmp 6)=.e (.one (.v (.slice (aa ⟨C,0,ae⟩) n n))):=rfl;have i:bS [(6,D.e (.one (.v (.slice (aa ⟨C,0,ae⟩) n n)))),(7,dI x)] (.tmp 7)=dI x:=rfl;rw[l]at c;rw[i]at b;have c:=Rd.eu c;have b:=fe b;generalize d:j (.tmp 7)=vy at b;cases b;have g:=(tok 201 i201 rfl).run_underlying (w:=s.w);refine⟨.pointer (aa ⟨C,x*2,ae⟩),?_,Rd.val rfl,?_⟩
 .simp[aq,oW,c,d,Instr.indexAt,asIntOf,g,i201,(tok 214 i214 rfl).run_sizeOf,i214,dw,f]
 .simp[aq,oW,c,d,Instr.indexAt,asIntOf,g,i201,dw,f]
def Wz{X:Cx ag}{k:Int}(l:eh X 141 (mH k))(ps:List bG)(a:Int)(n x C:Nat)(r:x<n)(p:ai):
  LF X 13 vS.toArray (Wy k ps a n x C p) [] (xW k ps a n x C) (frW k ps a n x C p) F4 7:=by
 have q:bH X [(141,mH k)]:=bH.cons l bH.nil;have f:∀(i:Nat) (o:aC) (φ:Fr) (d:D) (obs:List Prop),vS[i]?=aa o->xj tt [(141,mH k)] [] vS φ [] o=aa (d,ae,obs)->au obs->OA X 13 vS o φ [] d [] :=
  λi o φ d obs _ h b=>gV tok q h b
 refine⟨?_,?_,?_,?_,?_,?_,by decide⟩
 .intro i o b e m _;simp only[iL]at b;have hi:=oZ b
  match i,hi with
  |0,_|1,_|2,_|3,_|4,_|5,_|6,_|7,_ =>
   cases b;simp[oW]at m;try (rcases m with rfl|rfl|rfl|rfl|rfl|rfl|rfl|rfl|rfl<;>decide)
   try (rcases m with rfl|rfl|rfl<;>decide)
 .intro i o d b w;simp only[iL]at b;have hi:=oZ b
  match i,hi with
  |0,_|1,_|2,_|3,_|4,_|5,_|6,_|7,_ =>
   cases b;cases w;try exact⟨rfl,by decide⟩
 .intro d i h;unfold F4 at h;split at h<;>cases h<;>exact⟨_,rfl,rfl⟩
 .intro i o b g;simp only[iL]at b;have hi:=oZ b
  match i,hi with
  |0,_=>cases b;exact f 0 _ _ _ _ rfl rfl ak
  |1,_=>cases b;exact f 1 _ _ _ _ rfl rfl ak
  |2,_=>cases b;exact f 2 _ _ _ _ rfl rfl ak
  |3,_=>cases b;exact f 3 _ _ _ _ rfl rfl ak
  |4,_=>cases b;exact f 4 _ _ _ _ rfl rfl ak
  |5,_ =>
   cases b;have:=f 5 _ (frW k ps a n x C p 5) _ _ rfl rfl (by simp[cP.aK]);rw[cP.list_fn]at this;exact this
  |6,_=>cases b;exact PZ r
  |7,_=>grind
 .intro i o b g t σ s v c;simp only[iL]at b;have hi:=oZ b
  match i,hi with
  |0,_|1,_|2,_|3,_|4,_ =>
   match t with
   |0|1|2|3|4|5=>exact c
   |t+6=>trivial
  |5,_ =>
   cases b
   match t with
   |8=>exact(show du σ s v (xW k ps a n x C 2)from by simpa[F4,oW,dv,Region.binds]using c)
   |9=>exact(show du σ s v (xW k ps a n x C 3)from by simpa[F4,oW,dv,Region.binds]using c)
   |10=>exact(show du σ s v (xW k ps a n x C 4)from by simpa[F4,oW,dv,Region.binds]using c)
   |0|1|2|3|4|5|6|7=>trivial
   |t+11=>trivial
  |6,_ =>
   cases b
   match t with
   |6=>exact(show du σ s v (xW k ps a n x C 0)from by simpa[F4,oW,dv,Region.binds]using c)
   |7=>exact(show du σ s v (xW k ps a n x C 1)from by simpa[F4,oW,dv,Region.binds]using c)
   |0|1|2|3|4|5=>trivial
   |t+8=>trivial
  |7,_=>grind
 .intro o b j u g;simp only[iL]at b;cases b
  match j,u with
  |0,_=>exact⟨⟨0,.phase⟩,by simp[oW],rfl,rfl⟩
  |1,_=>exact⟨⟨1,.phase⟩,by simp[oW],rfl,rfl⟩
  |2,_=>exact⟨⟨2,.phase⟩,by simp[oW],rfl,rfl⟩
  |3,_=>exact⟨⟨3,.phase⟩,by simp[oW],rfl,rfl⟩
  |4,_=>exact⟨⟨4,.phase⟩,by simp[oW],rfl,rfl⟩
  |5,_=>exact⟨⟨5,.phase⟩,by simp[oW],rfl,rfl⟩
  |6,_=>exact⟨⟨6,.data⟩,by simp[oW],rfl,rfl⟩
  |7,_=>grind
noncomputable def vT:aX:={(default:aX)with fn:=Tryz.prog.funcs.size,defers:=[],mode:=.panicking [goexitEntry]}
def yg(vs:Array ai):Deferred:={target:=.fn (.func 139) vs,args:=#[]}
def I8(v0 v1 v2 v3 v4 v5:ai)(w:ay):aG ag af (born ag (yg #[v0,v1,v2,v3,v4,v5])) w =
  .go (G ((baseD 139).at ⟨#[v0,v1,v2,v3,v4,v5,ah,ah,ah,ah,ah,ah,ah],[]⟩ [.code (.seq (.region 0 Mb af) (.region 1 Mc ab))]) [vT]) w #[]:=by
 have d:=Md;have c:Tryz.f139.ntmps=13:=by kernel_rfl
 have b:¬Tryz.f139.name= "runtime.NumGoroutine":=by
  have:(Tryz.f139.name== "runtime.NumGoroutine")=af:=by kernel_rfl
  grind
 simp[born,yg,aG,unwind,callDeferred,invoke,callFunc,Tryz.func139,d,c,b,seen,GStep.after,G,Frame.enter,Frame.at,baseD,vT]
end
section
variable {X:Cx ag}
abbrev pk(ps:List bG)(i:Nat):bG:=ps.getD i (0,[])
def LZ{n:Int}{ps:List bG}{r:Bs}(hi:i<ps.length)(h:ee k (pk ps i) n=aa r)(a:∀j,j<i->ee k (pk ps j) n=ae):dg k ps n=aa r:=by
 unfold dg;induction ps generalizing i with
 |nil=>grind
 |cons p ps ih =>
  cases i with
  |zero=>grind
  |succ i =>
   have b:=a 0 (by omega);grind
def F0{n:Int}{ps:List bG}(a:∀j,j<ps.length->ee k (pk ps j) n=ae):dg k ps n=ae:=by unfold dg;grind[List.getElem_of_mem]
theorem rZ.VF{P:aJ}{φ:Fr}{σ:List bg}{T:List (Nat×TI)}(hT:cV P T){fn:Func}{c:Nat}{res:D}{σ':List bg}(ks:List Nat){ps:List Prop}(h:Iz T fn.results.toList ks φ res=aa ps)(i:au ps)(f:kh ks σ=aa σ')(a:kS σ'=ab)(e:dK ks=ab)(hk:∀j,j<c->ks[j]?=aa j):
  rZ P fn c res σ' .ret φ σ:=by
 refine⟨.inl rfl,ks,?_⟩;unfold Iz at h;split at h
 .rename_i ds Zu;split at h
  .rename_i d g;split at h
   .rename_i b;exact⟨d,ps,AY.VF hT Zu g,h,i,b,f,a,e,hk⟩
   grind
  grind
 grind
def x8{a:List Nat}:∀j,j<0->a[j]?=aa j:=λ_ h=>absurd h (fy _)
def L5(b:eh X 126 n8)(k:Int)(ps:List bG)(n:Int)(hk:b5 k=ab):Ev X 141 [dI k,cP.sl ps,dI n] [] (Yk (dg k ps n)) []:=by
 refine Ev.tc Tryz.func141 rfl rfl rfl λl=>?_;have f:=l.sl 1 rfl;have d:bH X [(174,FV aI (FZ ei) aI (λk p n=>BD (ee k p n)) λk _ _=>[b5 k=ab])]:=.cons (TH b) .nil;refine ck d rfl ak ?_;refine AK.cJ 1 (λi=>i<=ps.length/\∀j,j<i->ee k (pk ps j) n=ae) (λi:Nat=>[(0,dI k),(2,dI n),(6,.e (.one (.ptr 0 0))),(11,cP.sl ps),(12,dI ps.length),(13,dI i)]) (λ_=>[.cells 214 [.c (.str []),.c (.bool af)]]) (λi=>ps.length-i) 0 rfl ?_ rfl ?_ rfl ⟨by omega,by omega⟩ ?_
 .simp
 .simp
 rintro i ⟨hi,a⟩;by_cases h:i<ps.length
 .cases g:ee k (pk ps i) n with
  |some r =>
   refine aU d [(14,ab),(24,ab)] rfl ?_ (AK.freeze 6 0 rfl rfl rfl (AK.fR ?_))
   .simp only[au,b9,ei.list_fn];refine⟨?_,ei.aK _,hk,by omega,by omega,de (by omega)⟩;grind
   .refine rZ.VF tok [] rfl ?_ rfl rfl rfl x8;rw[LZ h g a];simp only[b9,ei.list_fn];have e:ee k ((ps.getD i cP.b8).1,(ps.getD i cP.b8).2) n=aa r:=g;rw[e];simp
  |none =>
   refine aU d [(14,ab),(24,af)] rfl ?_ (AK.aQ (i+1) rfl ?_ ?_ ?_ ?_)
   .simp only[au,b9,ei.list_fn];refine⟨by simp only[bE];omega,?_,ei.aK _,hk,by omega,by omega,de (by omega)⟩;grind
   .simp
   .simp
   .grind
   grind
 .refine aU d [(14,af)] rfl (by simp;omega) (AK.leaveD rfl rfl ?_);refine ck d rfl ak ?_;refine AK.freeze 6 0 rfl rfl rfl ?_;refine AK.SB tok [] rfl ?_ rfl rfl rfl x8;rw[F0 λj m=>a j (by omega)];simp
def TJ(a:eh X 126 n8)(hk:b5 k=ab):eh X 141 (mH k):=by
 intro args σ res σ' obs h c;unfold mH at h;split at h
 .rename_i k1 da n;split at h
  .cases h
  .rename_i f e d;cases h;obtain⟨b,rfl⟩:=c;exact(L5 a _ _ n hk).args λs vs=>cp.imp (λ_ r=>r) (cp.imp (λ_ r=>cP.jS d b r) (cp.imp (λ_ r=>r) (λ_ r=>r))) vs
 grind
def IY:dJ:=λargs σ=>match args,σ with
 |[.e (.one (.c (.str [46]))),.e (.one (.c (.int .i64 c)))],[]=>aa (dS (List.replicate c.toNat 46),[],[0<=c/\c<=3])
 |_,_=>ae
def t158:eh X 158 (kD aI (λn=>dI (cR n.toNat)) λn=>[0<=n/\n<=4000000]):=.pF λn h=>by
 have a:0<=n/\n<=4000000:=h;obtain⟨m,rfl⟩:∃m:Nat,n=m:=⟨n.toNat,by omega⟩
 exact Ds (X:=X) m (by omega)
def L6(b:1<=n)(a:n<=8):n<=cR n/\cR n<=n+3:=by unfold cR;grind
def L8(a:eh X 157 IY)(p:Bs):Ev X 126 [dS p] [] (dS (eZ p)) []:=by
 refine Ev.bQ Tryz.func126 rfl λe=>?_;have d:bH X [(136,kD aS (λs=>dB (bA s)) λ_=>[]),(158,kD aI (λn=>dI (cR n.toNat)) λn=>[0<=n/\n<=4000000]),(157,IY)]:=.cons t136 (.cons t158 (.cons a .nil));by_cases b:bA p=ab
 .have c:=b;simp only[bA,bM,a9]at c;have f:=L6 c.1.1 c.1.2;refine aU d [(5,af)] rfl ?_ (AK.bC rfl ?_)
  .simp[b,bE];omega
  .simp[eZ,b]
 .refine aU d [(5,ab)] rfl ?_ (AK.bC rfl ?_)
  .simp[b]
  .simp[eZ,b]
def Wr(a:eh X 157 IY):eh X 126 n8:=.pF λp _=>L8 a p
def PT:Ev X 157 [dS [46],dI 0] [] (dS []) []:=by
 refine Ev.bQ Tryz.func157 rfl λa=>?_;refine aW [(12,ab)] rfl ?_ (AK.bC rfl)
 .simp
def PU:Ev X 157 [dS [46],dI 1] [] (dS [46]) []:=by
 refine Ev.bQ Tryz.func157 rfl λa=>?_;refine aW [(12,af),(14,ab)] rfl ?_ (AK.bC rfl)
 .simp
def Wq(a:Ev X 157 [dS [46],dI 2] [] (dS [46,46]) [])(d:Ev X 157 [dS [46],dI 3] [] (dS [46,46,46]) []):eh X 157 IY:=by
 intro args σ res σ' obs h b;unfold IY at h;split at h
 .rename_i c;cases h;have:c=0∨c=1∨c=2∨c=3:=by have:0<=c/\c<=3:=b;omega
  rcases this with rfl|rfl|rfl|rfl
  .exact PT
  .exact PU
  .exact a
  grind
 grind
def TC(a b:List Bs):Ev X 144 [cS.sl a,cS.sl b] [] (dB (a==b)) []:=by
 refine Ev.bQ Tryz.func144 rfl λk=>?_;have c:=k.sl 0 rfl;by_cases d:a.length=b.length
 .refine aW [(10,af)] rfl (by simp[d]) ?_;refine AK.kq (λi=>i<=a.length/\∀j,j<i->a.getD j []=b.getD j []) (λi:Nat=>[(0,cS.sl a),(1,cS.sl b),(12,dI a.length),(13,dI i)]) (λ_=>[]) (λi=>a.length-i) 0 rfl ?_ rfl ak ⟨by omega,by omega⟩ ?_
  .simp
  rintro i ⟨hi,g⟩;by_cases h:i<a.length
  .by_cases f:a.getD i []=b.getD i []
   .refine aW [(14,ab),(24,af)] rfl ?_ (AK.gg (i+1) rfl ?_ rfl ak ?_ ?_)
    .simp only[au,b9];have e:(a.getD i cS.b8==b.getD i cS.b8)=ab:=gw.2 f;exact⟨by simp only[bE];omega,by grind,by omega,by omega,by omega,by omega,de (by omega)⟩
    .simp
    .grind
    .omega
   .refine aW [(14,ab),(24,ab)] rfl ?_ (AK.iC (cz.zero rfl ?_))
    .simp only[au,b9];grind
    .have:(a==b)=af:=eF.2 (by grind);simp[this]
  .refine aW [(14,af)] rfl (by simp;omega) (AK.leave rfl rfl ?_);refine bu rfl ak (AK.bC rfl ?_);have:a=b:=sR d λj f l=>by grind
   simp[this]
 .refine aW [(10,ab)] rfl ?_ (AK.bC rfl ?_)
  .simp;omega
  .have:(a==b)=af:=eF.2 (by grind);simp[this]
end
def x9(h:o.op=.binOp op t x y ty){e:av}(A:P.underlying t=aa (.pointer e)){b c:Bool}(z:∀s u v,aE σ s->du σ s u (η x)->du σ s v (η y)->∃p q,u=.pointer p/\v=.pointer q/\(p==q)=b/\(eqGuard op t x y u v).run P s.w=.ok () s.w/\(∀es,(eqGuard op t x y u v).events P s.w es=es) /\
   (Op.equal t u v).run P s.w=.ok b s.w/\∀es,(Op.equal t u v).events P s.w es=es)(k:jv op b=aa c):bL P o η σ (.e (.one (.c (.bool c)))) σ:=by
 refine .quiet λs C r n=>?_;obtain⟨p,q,f,g,B,j,l,i,m⟩:=z s _ _ r (n x) (n y);rw[f,g]at j i;have a:=l #[];have d:=m #[];rw[f,g]at a d;cases op<;>simp only[jv,reduceCtorEq,dn]at k
 .subst k;exact⟨.bool b,by simp[aq,h,f,g,j,binOp,i],Rd.bool,by simp[aq,h,f,g,j,a,binOp,i,d]⟩
 .subst k;exact⟨.bool (!b),by simp[aq,h,f,g,j,binOp,i],Rd.bool,by simp[aq,h,f,g,j,a,binOp,i,d]⟩
def uF(h:o.op=.binOp op t x (.const (.pointer ae)) ty){e:av}(f:P.underlying t=aa (.pointer e)){c:Bool}(i:η x=.e (.one (.c .iD)))(k:η (.const (.pointer ae))=.e (.one (.c .iD)))(l:jv op ab=aa c):bL P o η σ (.e (.one (.c (.bool c)))) σ:=by
 refine x9 h f (b:=ab) ?_ l;intro s u v _ d a;rw[i]at d;rw[k]at a;replace d:=fe d;replace a:=fe a;cases d;cases a;have j:(Op.equal t (.pointer ae) (.pointer ae)).run P s.w=.ok ab s.w:=by show(aZ (9999+1) t _ _).run P s.w=_;unfold aZ;simp[underlying,f]
 have g:∀es,(Op.equal t (.pointer ae) (.pointer ae)).events P s.w es=es:=λes=>by show(aZ (9999+1) t _ _).events P s.w es=es;unfold aZ;simp[underlying,f]
 exact⟨ae,ae,rfl,rfl,rfl,by cases op<;>simp[eqGuard],λes=>by cases op<;>simp[eqGuard],j,g⟩
def Ty(h:o.op=.binOp op t x (.const (.pointer ae)) ty){e:av}(d:P.underlying t=aa (.pointer e)){c:Bool}(i:η x=.e (.one (.ptr l off)))(k:η (.const (.pointer ae))=.e (.one (.c .iD)))(m:jv op af=aa c):bL P o η σ (.e (.one (.c (.bool c)))) σ:=by
 refine x9 h d (b:=af) ?_ m;intro s u v _ g a;rw[i]at g;rw[k]at a;replace a:=fe a;cases a;obtain⟨_,L,b,_,_,rfl⟩:=(g:gH σ s u (.ptr l off));have j:(Op.equal t (.pointer (aa ⟨b,off,ae⟩)) (.pointer ae)).run P s.w=.ok af s.w:=by show(aZ (9999+1) t _ _).run P s.w=_;unfold aZ;simp[underlying,d]
 have f:∀es,(Op.equal t (.pointer (aa ⟨b,off,ae⟩)) (.pointer ae)).events P s.w es=es:=λes=>by show(aZ (9999+1) t _ _).events P s.w es=es;unfold aZ;simp[underlying,d]
 exact⟨_,ae,rfl,rfl,rfl,by cases op<;>simp[eqGuard],λes=>by cases op<;>simp[eqGuard],j,f⟩
def PG(h:o.op=.binOp op t x y ty){e:av}(g:P.underlying t=aa (.pointer e))(k:n≠0)(q:∀w,(sizeOf e).run P w=.ok n w)(f:∀w es,(sizeOf e).events P w es=es){c:Bool}(r:η x=.e (.one (.ptr l off)))(z:η y=.e (.one (.ptr l off)))(B:jv op ab=aa c):bL P o η σ (.e (.one (.c (.bool c)))) σ:=by
 refine x9 h g (b:=ab) ?_ B;intro s u v _ p m;rw[r]at p;rw[z]at m;obtain⟨_,L,b,C,i,rfl⟩:=(p:gH σ s u (.ptr l off));obtain⟨_,D,E,d,a,rfl⟩:=(m:gH σ s v (.ptr l off));rw[C]at d;cases d;rw[i]at a;cases a;have A:(Op.equal t (.pointer (aa ⟨b,off,ae⟩)) (.pointer (aa ⟨b,off,ae⟩))).run P s.w=.ok ab s.w:=by show(aZ (9999+1) t _ _).run P s.w=_;unfold aZ;simp[underlying,g,q,k,sameAddr]
 have j:∀es,(Op.equal t (.pointer (aa ⟨b,off,ae⟩)) (.pointer (aa ⟨b,off,ae⟩))).events P s.w es=es:=λes=>by show(aZ (9999+1) t _ _).events P s.w es=es;unfold aZ;simp[underlying,g,q,f,k,sameAddr]
 exact⟨_,_,rfl,rfl,by simp,by cases op<;>simp[eqGuard],λes=>by cases op<;>simp[eqGuard],A,j⟩
def HJ(h:o.op=.binOp op t x (.const (.pointer ae)) ty){e:av}(f:P.underlying t=aa (.pointer e)){c:Bool}{cs:List C}(i:η x=.e (.one (.c (.rp cs))))(k:η (.const (.pointer ae))=.e (.one (.c .iD)))(l:jv op af=aa c):bL P o η σ (.e (.one (.c (.bool c)))) σ:=by
 refine x9 h f (b:=af) ?_ l;intro s u v _ d a;rw[i]at d;rw[k]at a;replace d:=fe d;replace a:=fe a;cases a;cases d with|rp b off =>
 have j:(Op.equal t (.pointer (aa ⟨b,off,ae⟩)) (.pointer ae)).run P s.w=.ok af s.w:=by show(aZ (9999+1) t _ _).run P s.w=_;unfold aZ;simp[underlying,f]
 have g:∀es,(Op.equal t (.pointer (aa ⟨b,off,ae⟩)) (.pointer ae)).events P s.w es=es:=λes=>by show(aZ (9999+1) t _ _).events P s.w es=es;unfold aZ;simp[underlying,f]
 exact⟨_,ae,rfl,rfl,rfl,by cases op<;>simp[eqGuard],λes=>by cases op<;>simp[eqGuard],j,g⟩
section
variable {X:Cx ag}
abbrev bB(a:Bool)(v1:ai)(bf:Option (Nat×Nat))(xs:Bs)(b:Nat):bg:=.cj (BB 255 5 a v1 bf xs b)
def Dn(v1:ai)(b:cO v1=ab)(bf:Option (Nat×Nat))(xs:Bs)(a:Nat):Ev X 210 [.e (.one (.ptr 0 0))] [bB af v1 bf xs a] (.fD []) [bB ab v1 bf xs a]:=by
 refine Ev.bQ Tryz.func210 rfl λc=>?_;refine bu rfl ak ?_;refine AK.law (bL.Sr tok rfl rfl rfl rfl rfl) rfl rfl ?_;refine AK.law (uF rfl Tryz.underlying253 rfl rfl rfl) rfl rfl ?_;refine bu rfl ak ?_;refine AK.law (bL.bTo rfl rfl Tryz.underlying253 Tryz.underlying124 (eJ Tryz.type255) (by simp[Tryz.t255]) rfl) rfl rfl ?_;refine AK.law (bL.Vz Tryz.func227 (by kernel_rfl) (by kernel_rfl) (by kernel_rfl) (by kernel_rfl) rfl rfl rfl) rfl rfl ?_;refine AK.law (bL.Vy rfl rfl Tryz.underlying124 Tryz.underlying253 (eJ Tryz.type255) (by simp[Tryz.t255]) (by kernel_rfl) rfl) rfl rfl ?_
 refine bu rfl ak ?_;refine AK.law (bL.OK tok rfl rfl rfl rfl rfl rfl b) rfl rfl ?_;refine bu rfl ak ?_;exact cz.qb [0] rfl ak rfl rfl rfl (λj d=>by grind)
def Dp(v1:ai)(bf:Option (Nat×Nat))(xs:Bs)(a:Nat):Ev X 210 [.e (.one (.ptr 0 0))] [bB ab v1 bf xs a] (.fD []) [bB ab v1 bf xs a]:=by
 refine Ev.bQ Tryz.func210 rfl λb=>?_;refine bu rfl ak ?_;refine AK.law (bL.Ki tok rfl rfl rfl rfl rfl) rfl rfl ?_;refine AK.law (Ty rfl Tryz.underlying253 rfl rfl rfl) rfl rfl ?_;refine bu rfl ak ?_;refine AK.law (bL.Ki tok rfl rfl rfl rfl rfl) rfl rfl ?_;refine bu rfl ak ?_;refine AK.law (PG rfl Tryz.underlying253 (n:=2) (by decide) (λw=>by simp[sizeOf,typeInfo,eJ Tryz.type255,Tryz.t255]) (λw es=>by simp[sizeOf,typeInfo,eJ Tryz.type255]) rfl rfl rfl) rfl rfl ?_
 refine bu rfl ak ?_;exact cz.qb [0] rfl ak rfl rfl rfl (λj c=>by grind)
abbrev bb(a:Bool)(bf:Option (Nat×Nat))(xs:Bs)(b:Nat):bg:=bB a (pO bf xs.length) bf xs b
def Bz:∀j,j<1->([0]:List Nat)[j]?=aa j:=λj a=>by grind
def BA(a:Bool)(bf:Option (Nat×Nat))(xs:Bs)(b:Nat)(c:xs.length<=9223372036854775807)(d:bf=ae->xs=[]):Ev X 202 [.e (.one (.ptr 0 0))] [bb a bf xs b] (dI xs.length) [bb a bf xs b]:=by
 refine Ev.bQ Tryz.func202 rfl λf=>?_;refine bu rfl ak ?_;refine AK.law (bL.fH tok rfl rfl rfl rfl rfl) rfl rfl ?_;cases bf with
 |none =>
  have:=d rfl;subst this;refine AK.law (bL.vO rfl rfl aO rfl (by simp)) rfl rfl ?_;refine bu rfl ak (AK.cX [0] rfl ?_ rfl rfl rfl Bz);simp
 |some p =>
  refine AK.law (bL.vO rfl rfl aO rfl c) rfl rfl ?_;refine bu rfl ak (AK.cX [0] rfl ?_ rfl rfl rfl Bz);simp
def FN(g cap:Nat)(xs s:Bs)(a:Nat)(f:s.length<=9223372036854775807)(b:xs.length+s.length<=cap):Ev X 181 [.e (.one (.ptr 0 0)),dS s] [bb ab (aa (g,cap)) xs a] (.fD [.one (.c (.int .i64 s.length)),.one (.c .jk)]) [bb ab (aa (g,cap)) (xs++s) a]:=by
 refine Ev.bQ Tryz.func181 rfl λd=>?_;refine bu rfl ak ?_;refine AK.cQ (Dp (pO (aa (g,cap)) xs.length) (aa (g,cap)) xs a) [0] rfl ?_;refine bu rfl ak ?_;refine AK.law (bL.fH tok rfl rfl rfl rfl rfl) rfl rfl ?_;refine bu rfl ak ?_;refine AK.law (bL.OL (l:=0) (g:=g) (cap:=cap) (xs:=xs) rfl aO Tryz.underlying9 (eJ Tryz.type5) (by simp[Tryz.t5]) rfl rfl rfl rfl b) rfl rfl ?_;refine bu rfl ak ?_;refine AK.law (bL.AQ tok rfl rfl rfl rfl rfl rfl rfl) rfl rfl ?_;have e:bb ab (aa (g,cap)) (xs++s) a=.cj (BB 255 5 ab (pO (aa (g,cap)) (xs.length+s.length)) (aa (g,cap)) (xs++s) a):=by grind
 rw[e];refine bu rfl ak (AK.cX [0] rfl ?_ rfl rfl rfl Bz);simp
theorem Tz:Ev X 181 [.e (.one (.ptr 0 0)),dS []] [bb ab ae [] 0] (.fD [.one (.c (.int .i64 0)),.one (.c .jk)]) [bb ab ae [] 0]:=by refine Ev.bQ Tryz.func181 rfl λa=>?_;refine bu rfl ak ?_;refine AK.cQ (Dp (pO ae 0) ae [] 0) [0] rfl ?_;refine bu rfl ak ?_;refine AK.law (bL.fH tok rfl rfl rfl rfl rfl) rfl rfl ?_;refine bu rfl ak ?_;refine AK.law (bL.Kl rfl aO Tryz.underlying9 (eJ Tryz.type5) rfl rfl) rfl rfl ?_;refine bu rfl ak ?_;refine AK.law (bL.AQ tok rfl rfl rfl rfl rfl rfl rfl) rfl rfl ?_;refine bu rfl ak (AK.cX [0] rfl ?_ rfl rfl rfl Bz);simp
abbrev dp:D:=.e (.one (.ptr 0 0))
abbrev Ow:D:=.e (.one (.ptr 0 1))
def FO(g cap:Nat)(xs:Bs)(c:Nat)(a:xs.length<=9223372036854775807)(b:cap≠0):Ev X 182 [.e (.one (.ptr 0 0))] [bb ab (aa (g,cap)) xs c] (dS xs) [bb ab (aa (g,cap)) xs xs.length]:=by
 refine Ev.bQ Tryz.func182 rfl λd=>?_;refine aW [(1000001,ab)] rfl ak ?_;refine AK.Ov ju 10 (λi=>bD i 9) (λi=>[dp,dp,Ow,.e (.one (.v (.slice (aa ⟨g,0,ae⟩) xs.length cap))),.e (.one (.v (.pointer (aa ⟨g,0,ae⟩)))),dp,dp,Ow,.e (.one (.v (.slice (aa ⟨g,0,ae⟩) xs.length cap))),dI xs.length].getD i .any) (λ(_:Unit) _=>dS xs)
  (λ_=>[bb ab (aa (g,cap)) xs xs.length]) rfl rfl rfl rfl rfl rfl ?_ ?_ ?_ ?_
 .refine⟨.c8 tok bH.nil rfl,.c8 tok bH.nil rfl,.c8 tok bH.nil rfl,?_,?_,.c8 tok bH.nil rfl,.c8 tok bH.nil rfl,.c8 tok bH.nil rfl,?_,?_,ak,ak,ak⟩
  .exact .law (bL.fH (l:=0) tok rfl rfl rfl rfl rfl) rfl
  .exact .law (bL.Vv rfl rfl b) rfl
  .exact .law (bL.fH (l:=0) tok rfl rfl rfl rfl rfl) rfl
  .exact .law (bL.vO rfl rfl aO rfl a) rfl
 .intro _;refine⟨.c8 tok bH.nil rfl,.c8 tok bH.nil rfl,.c8 tok bH.nil rfl,?_,?_,.c8 tok bH.nil rfl,.c8 tok bH.nil rfl,.c8 tok bH.nil rfl,?_,?_,ak,.c8 tok bH.nil rfl,ak⟩
  .exact .law (bL.fH (l:=0) tok rfl rfl rfl rfl rfl) rfl
  .exact .law (bL.Vv rfl rfl b) rfl
  .exact .law (bL.fH (l:=0) tok rfl rfl rfl rfl rfl) rfl
  .exact .law (bL.vO rfl rfl aO rfl a) rfl
 .exact .Bi (.law (Vt (l:=0) rfl Tryz.underlying281 (by kernel_rfl) rfl rfl rfl) rfl)
 .intro _;refine bu rfl ak (AK.cX [0] rfl ?_ rfl rfl rfl Bz);simp
def Wp(h:o.op=.binOp .add t x y ty){b:Int}(e:η x=dI 0)(d:η y=dI b)(a:bE .i64 b):bL ag o η σ (dI b) σ:=by have:=bL.binOp (P:=ag) (σ:=σ) h e d (c:=.int .i64 (0+b)) (obs:=[bE .i64 (0+b)]) rfl (by rw[Int.zero_add];exact a);grind
def ek.RH{f:aH}{fn:Func}{args:List D}{σ':ι->List bg}(d:Tryz.prog.funcs[f]?=aa fn)(b:(fn.name== "runtime.NumGoroutine")=af)(g:fn.body=aa c)(a:bD args.length fn.ntmps=ab)(h:AK X fn.ntmps (λe φ σ1=>∃j,cz fn σ.length (res j) (σ' j) e φ σ1) [.code c] .normal (js 0 args) σ):ek X f args σ res σ' :=
 ek.intro d b g (dr a) (AK.of_code h)
def PH:Ev X 182 [.e (.one (.ptr 0 0))] [bb ab ae [] 0] (dS []) [bb ab ae [] 0]:=by
 refine Ev.bQ Tryz.func182 rfl λa=>?_;refine aW [(1000001,ab)] rfl ak ?_;refine AK.Ov ju 10 (λi=>bD i 9) (λi=>[dp,dp,Ow,.e (.one (.v (.slice ae 0 0))),.e (.one (.v (.pointer ae))),dp,dp,Ow,.e (.one (.v (.slice ae 0 0))),dI (0:Nat)].getD i .any) (λ(_:Unit) _=>dS [])
  (λ_=>[bb ab ae [] 0]) rfl rfl rfl rfl rfl rfl ?_ ?_ ?_ ?_
 .refine⟨.c8 tok bH.nil rfl,.c8 tok bH.nil rfl,.c8 tok bH.nil rfl,?_,?_,.c8 tok bH.nil rfl,.c8 tok bH.nil rfl,.c8 tok bH.nil rfl,?_,?_,ak,ak,ak⟩
  .exact .law (bL.fH (l:=0) tok rfl rfl rfl rfl rfl) rfl
  .exact .law (bL.Vu rfl rfl) rfl
  .exact .law (bL.fH (l:=0) tok rfl rfl rfl rfl rfl) rfl
  .exact .law (bL.vO rfl rfl aO rfl (by decide)) rfl
 .intro _;refine⟨.c8 tok bH.nil rfl,.c8 tok bH.nil rfl,.c8 tok bH.nil rfl,?_,?_,.c8 tok bH.nil rfl,.c8 tok bH.nil rfl,.c8 tok bH.nil rfl,?_,?_,ak,.c8 tok bH.nil rfl,ak⟩
  .exact .law (bL.fH (l:=0) tok rfl rfl rfl rfl rfl) rfl
  .exact .law (bL.Vu rfl rfl) rfl
  .exact .law (bL.fH (l:=0) tok rfl rfl rfl rfl rfl) rfl
  .exact .law (bL.vO rfl rfl aO rfl (by decide)) rfl
 .exact .Bi (.law (bL.Vx rfl rfl rfl) rfl)
 .intro _;refine bu rfl ak (AK.cX [0] rfl ?_ rfl rfl rfl Bz);simp
def PI(n:Nat)(d:0<n)(c:n<=140737488355328):ek (ι:={p:Nat×Nat // n<=p.2}) X 211 [.e (.one (.ptr 0 0)),dI n] [bb ab ae [] 0] (λ_=>.fD []) (λj=>[bb ab (aa j.1) [] 0]):=by
 refine ek.RH Tryz.func211 rfl rfl rfl ?_;refine aW [(1000000,ab)] rfl ak ?_;have a:bE .i64 (n:Int):=by simp only[bE];omega
 have v0:D:=.e (.one (.v (.slice ae 0 0)));refine AK.Ov (ι:={p:Nat×Nat // n<=p.2}) ju 8 (λi=>bD i 7||(bD 9 i&&bD i 13)) (λi=>[dp,dp,Ow,.e (.one (.v (.slice ae 0 0))),dI (0:Nat),dI 0,dI n,dI n,.any,dp,dp,Ow,.e (.one (.v (.slice ae 0 0))),dI (0:Nat)].getD i .any)
  (λj i=>[.e (.one (.v (pO (aa j.1) n))),.any,.any,.any,.any,.any,.e (.one (.v (.slice (aa ⟨j.1.1,0,ae⟩) 0 j.1.2))),.e (.one (.v (.slice (aa ⟨j.1.1,0,ae⟩) 0 j.1.2)))].getD (i-8) .any)
  (λj=>[bB ab (.slice ae 0 0) (aa j.1) [] 0]) rfl rfl rfl rfl rfl rfl ?_ ?_ ?_ ?_
 .refine⟨.c8 tok bH.nil rfl,.c8 tok bH.nil rfl,.c8 tok bH.nil rfl,?_,?_,?_,.c8 tok bH.nil rfl,?_,ak,.c8 tok bH.nil rfl,.c8 tok bH.nil rfl,.c8 tok bH.nil rfl,?_,?_,ak,ak,ak⟩
  .exact .law (bL.fH (l:=0) tok rfl rfl rfl rfl rfl) rfl
  .exact .law (bL.ON rfl rfl aO rfl (by decide)) rfl
  .exact .law (FP 0 rfl rfl rfl (by simp[bE]) (λw=>rfl) (λw=>rfl)) rfl
  .exact .law (Wp rfl rfl rfl a) rfl
  .exact .law (bL.fH (l:=0) tok rfl rfl rfl rfl rfl) rfl
  .exact .law (bL.vO rfl rfl aO rfl (by decide)) rfl
 .intro j;have b:j.1.2≠0:=by grind
  refine⟨.c8 tok bH.nil rfl,.c8 tok bH.nil rfl,.c8 tok bH.nil rfl,?_,?_,?_,.c8 tok bH.nil rfl,?_,ak,.c8 tok bH.nil rfl,.c8 tok bH.nil rfl,.c8 tok bH.nil rfl,?_,?_,?_,.c8 tok bH.nil rfl,ak⟩
  .exact .law (bL.fH (l:=0) tok rfl rfl rfl rfl rfl) rfl
  .exact .law (bL.ON rfl rfl aO rfl (by decide)) rfl
  .exact .law (FP 0 rfl rfl rfl (by simp[bE]) (λw=>rfl) (λw=>rfl)) rfl
  .exact .law (Wp rfl rfl rfl a) rfl
  .exact .law (bL.fH (l:=0) tok rfl rfl rfl rfl rfl) rfl
  .exact .law (bL.vO rfl rfl aO rfl (by decide)) rfl
  .exact .law (bL.Vw (k:=0) rfl aO (eJ Tryz.type5) rfl rfl (jc _) j.2 b (dw _ _ _)) rfl
 .exact .lL rfl (Vs (l:=0) (ps:=#[3]) aO Tryz.func228 (by kernel_rfl) (by kernel_rfl) (by kernel_rfl) (by kernel_rfl) rfl rfl rfl d c rfl)
 .intro j;refine bu rfl ak ?_;refine AK.law (bL.fH (l:=0) tok rfl rfl rfl rfl rfl) rfl rfl ?_;refine AK.law (bL.copyV rfl aO (eJ Tryz.type5) rfl rfl) rfl rfl ?_;refine bu rfl ak ?_;refine AK.law (bL.AQ (l:=0) tok rfl rfl rfl rfl rfl rfl rfl) rfl rfl ?_;refine bu rfl ak ?_;exact⟨j,cz.qb [0] rfl ak rfl rfl rfl Bz⟩
def HG(n:Nat)(b:0<n)(a:n<=140737488355328):ek (ι:={p:Nat×Nat // n<=p.2}) X 180 [.e (.one (.ptr 0 0)),dI n] [bb af ae [] 0] (λ_=>.fD []) (λj=>[bb ab (aa j.1) [] 0]):=by
 refine ek.RH Tryz.func180 rfl rfl rfl ?_;refine bu rfl ak ?_;refine AK.cQ (Dn (pO ae 0) rfl ae [] 0) [0] rfl ?_;refine aW [(7,af),(1000003,ab)] rfl ?_ ?_
 .simp
 refine AK.Ov ju 4 (λi=>bD i 3||(bD 5 i&&bD i 9)||aw i 11) (λi=>[dp,dp,Ow,.e (.one (.v (.slice ae 0 0))),.any,dp,dp,Ow,.e (.one (.v (.slice ae 0 0))),dI (0:Nat),.any,dI n].getD i .any)
  (λ(_:Unit) i=>[dI (0:Nat),.any,.any,.any,.any,.any,dI (0-0),.any,dB ab].getD (i-4) .any)
  (λ_=>[bb ab ae [] 0]) rfl rfl rfl rfl rfl rfl ?_ ?_ ?_ ?_
 .refine⟨.c8 tok bH.nil rfl,.c8 tok bH.nil rfl,.c8 tok bH.nil rfl,?_,ak,.c8 tok bH.nil rfl,.c8 tok bH.nil rfl,.c8 tok bH.nil rfl,?_,?_,ak,.c8 tok bH.nil rfl,ak,ak⟩
  .exact .law (bL.fH (l:=0) tok rfl rfl rfl rfl rfl) rfl
  .exact .law (bL.fH (l:=0) tok rfl rfl rfl rfl rfl) rfl
  .exact .law (bL.vO rfl rfl aO rfl (by decide)) rfl
 .intro _;refine⟨.c8 tok bH.nil rfl,.c8 tok bH.nil rfl,.c8 tok bH.nil rfl,?_,ak,.c8 tok bH.nil rfl,.c8 tok bH.nil rfl,.c8 tok bH.nil rfl,?_,?_,?_,.c8 tok bH.nil rfl,?_,ak⟩
  .exact .law (bL.fH (l:=0) tok rfl rfl rfl rfl rfl) rfl
  .exact .law (bL.fH (l:=0) tok rfl rfl rfl rfl rfl) rfl
  .exact .law (bL.vO rfl rfl aO rfl (by decide)) rfl
  .exact .eval (ds:=[]) tok bH.nil (obs:=[bE .i64 (((0:Nat):Int)-((0:Nat):Int))]) rfl (by simp[bE])
  .exact .eval (ds:=[(21,ab)]) tok bH.nil (obs:=[decide ((0:Int)-0<(n:Int))=ab]) rfl (by simp;omega)
 .exact .Bi (.law (bL.ON rfl rfl aO rfl (by decide)) rfl)
 .intro _;refine bu rfl ak ?_;refine AK.cP (PI n b a) [0] rfl (λ_=>rfl) λj=>?_;refine bu rfl ak ?_;exact⟨j,cz.qb [0] rfl ak rfl rfl rfl Bz⟩
def LI:Ev X 180 [.e (.one (.ptr 0 0)),dI (0:Nat)] [bb af ae [] 0] (.fD []) [bb ab ae [] 0]:=by
 refine Ev.bQ Tryz.func180 rfl λa=>?_;refine bu rfl ak ?_;refine AK.cQ (Dn (pO ae 0) rfl ae [] 0) [0] rfl ?_;refine aW [(7,af),(1000003,ab)] rfl ?_ ?_
 .simp
 refine AK.Ov ju 4 (λi=>bD i 3||(bD 5 i&&bD i 9)||aw i 11) (λi=>[dp,dp,Ow,.e (.one (.v (.slice ae 0 0))),.any,dp,dp,Ow,.e (.one (.v (.slice ae 0 0))),dI (0:Nat),.any,dI (0:Nat)].getD i .any)
  (λ(_:Unit) i=>[dI (0:Nat),.any,.any,.any,.any,.any,dI (0-0),.any,dB af].getD (i-4) .any)
  (λ_=>[bb ab ae [] 0]) rfl rfl rfl rfl rfl rfl ?_ ?_ ?_ ?_
 .refine⟨.c8 tok bH.nil rfl,.c8 tok bH.nil rfl,.c8 tok bH.nil rfl,?_,ak,.c8 tok bH.nil rfl,.c8 tok bH.nil rfl,.c8 tok bH.nil rfl,?_,?_,ak,.c8 tok bH.nil rfl,ak,ak⟩
  .exact .law (bL.fH (l:=0) tok rfl rfl rfl rfl rfl) rfl
  .exact .law (bL.fH (l:=0) tok rfl rfl rfl rfl rfl) rfl
  .exact .law (bL.vO rfl rfl aO rfl (by decide)) rfl
 .intro _;refine⟨.c8 tok bH.nil rfl,.c8 tok bH.nil rfl,.c8 tok bH.nil rfl,?_,ak,.c8 tok bH.nil rfl,.c8 tok bH.nil rfl,.c8 tok bH.nil rfl,?_,?_,?_,.c8 tok bH.nil rfl,?_,ak⟩
  .exact .law (bL.fH (l:=0) tok rfl rfl rfl rfl rfl) rfl
  .exact .law (bL.fH (l:=0) tok rfl rfl rfl rfl rfl) rfl
  .exact .law (bL.vO rfl rfl aO rfl (by decide)) rfl
  .exact .eval (ds:=[]) tok bH.nil (obs:=[bE .i64 (((0:Nat):Int)-((0:Nat):Int))]) rfl (by simp[bE])
  .exact .eval (ds:=[(21,af)]) tok bH.nil (obs:=[decide ((0:Int)-0<((0:Nat):Int))=af]) rfl (by simp)
 .exact .Bi (.law (bL.ON rfl rfl aO rfl (by decide)) rfl)
 .intro _;refine bu rfl ak ?_;exact cz.qb [0] rfl ak rfl rfl rfl Bz
def LJ(h:o.op=.alloc 255):bL ag o η σ (.e (.one (.ptr σ.length 0))) (σ++[bb af ae [] 0]) :=
 bL.Ss h (λw=>by simp[zeroValue,typeInfo,eJ Tryz.type255,Tryz.t255]) (λw es=>by simp)
def LK{z:aB}{a b c:Int}(m:Int)(h:o.op=.call {callee:=.builtin .min,args:=#[x,y,z],argTypes:=jU})(q:η x=dI a)(r:η y=dI b)(p:η z=dI c)(v:min (min a b) c=m)(t:bE .i64 m):bL ag o η σ (dI m) σ:=by
 refine .quiet λs n u d=>?_;have k:=d x;have f:=d y;have i:=d z;rw[q]at k;rw[r]at f;rw[p]at i;replace k:=fe k;replace f:=fe f;replace i:=fe i;generalize j:n x=vx at k;generalize l:n y=vy at f;generalize g:n z=vz at i;cases k;cases f;cases i;have e:(if c<(if b<a then b else a)then c else if b<a then b else a)=m:=by grind
 exact⟨.int .i64 m,by simp[aq,h,resolve,invoke,builtin,j,l,g,Builtin.min_,Builtin.min2,e],.int t,by simp[aq,h,resolve,invoke,builtin,j,l,g,Builtin.min_,Builtin.min2]⟩
def LL(n:Nat)(l:2<=n)(p:n<=3):Ev X 157 [dS [46],dI n] [] (dS (List.replicate n 46)) []:=by
 refine Ev.bQ Tryz.func157 rfl λo=>?_;have a:bH X [(201,TA)]:=.cons t201 .nil;refine bm a [(13,af),(15,af),(18,af),(30,af),(33,af),(40,af),(44,af),(45,af),(46,af),(47,af),(48,af),(96,af),(1000035,ab)] rfl ?_ ?_
 .have h:(n:Int)=2∨(n:Int)=3:=by omega
  have e:(jl [46] 0).toNat=46:=rfl;simp[bE,e,h];omega
 refine AK.region ?_;refine AK.law (LJ rfl) rfl rfl ?_;refine cG a rfl ak ?_;refine AK.cP (HG n (by omega) (by omega)) [0] rfl (λ_=>rfl) λj=>?_;obtain⟨⟨g,cap⟩,b⟩:=j;have b:n<=cap:=b;refine cG a rfl ak ?_;refine AK.cQ (FN g cap [] [46] 0 (by simp) (by simp;omega)) [0] rfl ?_;refine cG a rfl ak ?_;refine AK.kq (λk=>1<=k/\k<=n) (λk:Nat=>[(0,dS [46]),(7,dI n),(8,dI n),(9,.e (.one (.ptr 0 0)))]) (λk=>[bb ab (aa (g,cap)) (List.replicate k 46) (k-1)]) (λk=>n-k) 1 rfl ?_ rfl ?_ ⟨by omega,by omega⟩ ?_
 .simp
 .exact au.cat.2 ⟨rfl,ak⟩
 rintro k ⟨i,f⟩;refine cG a rfl ak ?_;refine AK.cQ (BA ab (aa (g,cap)) (List.replicate k 46) (k-1) (by simp;omega) (by simp)) [0] rfl ?_;by_cases hk:k<n
 .refine bm a [(113,ab)] rfl ?_ ?_
  .simp;omega
  refine AK.cQ (BA ab (aa (g,cap)) (List.replicate k 46) (k-1) (by simp;omega) (by simp)) [0] rfl ?_;refine cG a rfl ?_ ?_
  .simp[bE];omega
  refine AK.cQ (BA ab (aa (g,cap)) (List.replicate k 46) (k-1) (by simp;omega) (by simp)) [0] rfl ?_;refine cG a rfl ak ?_;refine AK.law (LK 1 rfl rfl rfl rfl (by simp;omega) (by simp[bE])) rfl rfl ?_;refine cG a rfl ak ?_;refine AK.cQ (FO g cap (List.replicate k 46) (k-1) (by simp;omega) (by omega)) [0] rfl ?_;have c:tk (List.replicate k (46:UInt8)) ae (aa 1)=[46]:=by
   obtain⟨m,rfl⟩:∃m,k=m+1:=⟨k-1,by omega⟩
   simp[tk,List.replicate_succ]
  refine cG a rfl ?_ ?_
  .simp;omega
  rw[c];refine AK.cQ (FN g cap (List.replicate k 46) [46] (List.replicate k 46).length (by simp) (by simp;omega)) [0] rfl ?_;have d:List.replicate k (46:UInt8)++[46]=List.replicate (k+1) 46:=by rw[List.replicate_succ']
  rw[d];refine cG a rfl ak (AK.gg (k+1) rfl ?_ rfl ?_ ⟨by omega,by omega⟩ (by omega))
  .simp
  .refine au.cat.2 ⟨?_,ak⟩;simp
 .refine bm a [(113,af)] rfl ?_ (AK.leave rfl rfl ?_)
  .simp;omega
  have e:k=n:=by omega
  subst e;refine cG a rfl ak ?_;refine AK.cQ (FO g cap (List.replicate k 46) (k-1) (by simp;omega) (by omega)) [0] rfl ?_;exact cG a rfl ak (AK.bC rfl)
def ZP:eh X 157 IY:=Wq (LL 2 (by omega) (by omega)) (LL 3 (by omega) (by omega))
def PK:eh X 126 n8:=Wr ZP
def Room(bf:Option (Nat×Nat))(n:Nat):Prop:=match bf with|none=>n=0|some (_,cap)=>n<=cap/\0<cap
def _root_.Go.AM.ek.re{b:Type}{X:Cx P}{f:aH}{args:List D}{σ':ι->List bg}{a:b->D}{σ2:b->List bg}(h:ek X f args σ res σ')(g:ι->b)(c:∀i,a (g i)=res i)(d:∀i,σ2 (g i)=σ' i):ek X f args σ a σ2 :=
 ⟨h.1,λs vs h1 h2 S cs hS=>h.2 s vs h1 h2 S cs λi fr v s' k1 k2 k3 k4=>hS (g i) fr v s' k1 (by grind) (by grind) (by grind)⟩
def LM(n:Nat)(a:n<=140737488355328):ek (ι:={bf:Option (Nat×Nat) // Room bf n}) X 180 [.e (.one (.ptr 0 0)),dI n] [bb af ae [] 0] (λ_=>.fD []) (λj=>[bb ab j.1 [] 0]):=by
 by_cases h:n=0
 .subst h;exact LI.sH.re (λ_=>⟨ae,rfl⟩) (λ_=>rfl) (λ_=>rfl)
 .exact(HG n (by omega) a).re (λp=>⟨aa p.1,p.2,by grind⟩) (λ_=>rfl) (λ_=>rfl)
def FQ(bf:Option (Nat×Nat))(xs s:Bs)(a:s.length<=9223372036854775807)(h:Room bf (xs.length+s.length)):Ev X 181 [.e (.one (.ptr 0 0)),dS s] [bb ab bf xs 0] (.fD [.one (.c (.int .i64 s.length)),.one (.c .jk)]) [bb ab bf (xs++s) 0]:=by
 cases bf with
 |none =>
  have h:xs.length+s.length=0:=h;grind[Tz]
 |some p=>exact FN p.1 p.2 xs s 0 a h.1
def shown(bf:Option (Nat×Nat))(xs:Bs):Nat:=match bf with|none=>0|some _=>xs.length
def PL(bf:Option (Nat×Nat))(xs:Bs)(a:xs.length<=9223372036854775807)(h:Room bf xs.length):Ev X 182 [.e (.one (.ptr 0 0))] [bb ab bf xs 0] (dS xs) [bb ab bf xs (shown bf xs)]:=by
 cases bf with
 |none =>
  have h:xs.length=0:=h;have b:xs=[]:=jF h;subst b;exact PH
 |some p=>exact FO p.1 p.2 xs 0 a (by have:=h.2;omega)
def HH(l:List Bs)(i:Nat):Bs:=(l.take i).flatten
def LN{l:List Bs}(h:i<l.length):HH l (i+1)=HH l i++l.getD i []:=by unfold HH;grind[List.take_add_one]
def Ws{l:List Bs}:HH l l.length=l.flatten:=by simp[HH]
def LO{l:List Bs}(i:Nat):(HH l i).length<=l.flatten.length:=by
 have e:l.flatten=(l.take i).flatten++(l.drop i).flatten:=by grind[List.take_append_drop]
 rw[e,cW];simp only[HH];omega
def PN(l:List Bs)(t:l.flatten.length<=140737488355328):Ev X 143 [cS.sl l,dS []] [] (dS l.flatten) []:=by
 refine Ev.bQ Tryz.func143 rfl λr=>?_;have k:=r.sl 0 rfl;by_cases m:l=[]
 .subst m;refine aW [(14,ab)] rfl ?_ (AK.bC rfl)
  .simp
 by_cases s:l.length=1
 .obtain⟨x,rfl⟩:=List.length_eq_one_iff.1 s;refine aW [(14,af),(16,ab)] rfl ?_ (AK.bC rfl ?_)
  .simp
  .simp[cS,mS.fn]
 have u:2<=l.length:=by
  have:l.length≠0:=by grind
  omega
 refine aW [(14,af),(16,af),(22,af)] rfl ?_ ?_
 .simp[m];omega
 refine AK.kq (λi=>i<=l.length) (λi:Nat=>[(0,cS.sl l),(1,dS []),(5,dI (HH l i).length),(39,cS.sl l),(40,dI l.length),(41,dI i)]) (λ_=>[]) (λi=>l.length-i) 0 rfl ?_ rfl ak (by omega) ?_
 .simp[HH]
 .intro i hi;have v:=LO (l:=l) i;by_cases h:i<l.length
  .have d:=LO (l:=l) (i+1);rw[LN h,cW]at d;refine aW [(42,ab),(49,af)] rfl ?_ (AK.gg (i+1) rfl ?_ rfl ak (by omega) (by omega))
   .have e:(l.getD (i:Int).toNat cS.b8)=l.getD i []:=rfl;simp only[au,bE,e];grind
   .have e:(l.getD (i:Int).toNat cS.b8)=l.getD i []:=rfl;rw[LN h];rw[e];simp
  .have e:i=l.length:=by omega
   subst e;refine aW [(42,af),(1000018,ab)] rfl ?_ (AK.leave rfl rfl ?_)
   .simp
   refine aW [(1000018,ab)] rfl ak ?_;refine AK.region ?_;refine AK.law (LJ rfl) rfl rfl ?_;refine dk rfl ak ?_;rw[Ws];refine AK.cP (LM l.flatten.length t) [0] rfl (λ_=>rfl) λj=>?_;obtain⟨bf,f⟩:=j;refine dk rfl ?_ ?_
   .exact⟨by omega,show(0:Int)<(l.length:Int) by omega⟩
   have room:∀n,n<=l.flatten.length->Room bf n:=λn o=>by
    cases bf with
    |none =>
     have:l.flatten.length=0:=f;grind
    |some p=>exact⟨iN o f.1,f.2⟩
   have g:HH l 1=l.getD 0 []:=by rw[LN (by omega)];simp[HH]
   have b:=LO (l:=l) 1;rw[g]at b;refine AK.cQ (FQ bf [] (l.getD 0 []) (by omega) (room _ (by grind))) [0] rfl ?_;refine dk rfl ?_ ?_
   .exact⟨by omega,show(1:Int)<=(l.length:Int) by omega⟩
   refine AK.kq (λi=>i+1<=l.length) (λi:Nat=>[(1,dS []),(8,.e (.one (.ptr 0 0))),(63,.e (.one (.c (.sl af 1 (l.length-1) (my 1 (cS.fn l)))))),(64,dI (l.length-1:Nat)),(65,dI i)]) (λi=>[bb ab bf (HH l (i+1)) 0]) (λi=>l.length-i) 0 rfl ?_ rfl ?_ (by omega) ?_
   .simp[dm]
   .refine au.cat.2 ⟨?_,ak⟩;rw[bF,g];exact rfl
   intro i hi;have q:=LO (l:=l) (i+1);by_cases h:i+1<l.length
   .have a:=LO (l:=l) (i+2);rw[LN h,cW]at a;refine aW [(66,ab)] rfl ?_ ?_
    .exact⟨by omega,by omega,de (by omega)⟩
    refine AK.cQ (FQ bf (HH l (i+1)) [] (by simp) (room _ (by grind))) [0] rfl ?_;rw[iw];refine bu rfl ak ?_;refine AK.cQ (FQ bf (HH l (i+1)) (l.getD (1+i) []) (by grind) (room _ (by grind))) [0] rfl ?_;refine bu rfl ?_ (AK.gg (i+1) rfl ?_ rfl ?_ (by omega) (by omega))
    .simp only[au,bE];omega
    .simp
    .refine au.cat.2 ⟨?_,ak⟩;rw[LN h,Nat.add_comm 1 i];exact rfl
   .have e:i+1=l.length:=by omega
    refine aW [(66,af)] rfl ?_ (AK.leave rfl rfl ?_)
    .exact iM (by omega)
    rw[e,Ws];refine bu rfl ak ?_;refine AK.cQ (PL bf l.flatten (by omega) (room _ (by omega))) [0] rfl ?_;exact bu rfl ak (AK.bC rfl)
def I2{s:Bs}(h:cf s=ab)(i:Nat)(hi:i<s.length):97<=cU s i/\cU s i<=122:=by have a:=bz.1 h (s.getD i 0) (by grind);simp only[e9,bM,a9]at a;unfold cU;omega
def Dx(s:Bs)(i:Nat)(a:cf s=ab)(f:3<=i)(hi:i<=s.length)(k:s.length<=4000000):Ev X 160 [dS s,dI i] [] (dB (jX s i)) []:=by
 refine Ev.bQ Tryz.func160 rfl λe=>?_;have g:=I2 a (i-1) (by omega);have h:=I2 a (i-2) (by omega);have j:=I2 a (i-3) (by omega);have b:((jl s ((i:Int)-1)).toNat:Int)=cU s (i-1):=by grind[cY]
 have c:((jl s ((i:Int)-2)).toNat:Int)=cU s (i-2):=by grind[cY]
 have d:((jl s ((i:Int)-3)).toNat:Int)=cU s (i-3):=by grind[cY]
 refine bu rfl ?_ (AK.bC rfl ?_)
 .simp only[au,bE,b,c,d];omega
 .simp only[au,au.cat,b,c,d,jX,dl,aD];grind
def I3:eh X 160 (pv aS aI (λs i=>dB (jX s i.toNat)) λs i=>[cf s=ab,3<=i,i<=s.length,s.length<=4000000]):=.sI λs i h=>by
 obtain⟨a,c,d,b⟩:=h;obtain⟨m,rfl⟩:∃m:Nat,i=m:=⟨i.toNat,by omega⟩
 exact Dx s m a (by omega) (by omega) b
def yb{a b:Int}(m:Int)(h:o.op=.call {callee:=.builtin .min,args:=#[x,y],argTypes:=jU})(k:η x=dI a)(l:η y=dI b)(q:min a b=m)(n:bE .i64 m):bL ag o η σ (dI m) σ:=by
 refine .quiet λs j p d=>?_;have g:=d x;have c:=d y;rw[k]at g;rw[l]at c;replace g:=fe g;replace c:=fe c;generalize f:j x=vx at g;generalize i:j y=vy at c;cases g;cases c;have e:(if b<a then b else a)=m:=by grind
 exact⟨.int .i64 m,by simp[aq,h,resolve,invoke,builtin,f,i,Builtin.min_,Builtin.min2,e],.int n,by simp[aq,h,resolve,invoke,builtin,f,i,Builtin.min_,Builtin.min2]⟩
theorem L9{t:Bs}{f:Nat}(h:t.length<=f+3+j)(b:j<=5):uH t f (5-j)=min (f+8) t.length:=by
 rcases cN j 5 with a|a
 .obtain⟨k,hk⟩:∃k,5-j=k+1:=⟨4-j,by omega⟩
  rw[hk];simp only[uH];grind
 .rw[show 5-j=0 by omega];rfl
def I4(t:Bs)(f:Nat)(m:cf t=ab)(n:f<=t.length)(q:t.length<=4000000):Ev X 135 [dS t,dI f] [] (dI (cutAt t f)) []:=by
 refine Ev.bQ Tryz.func135 rfl λo=>?_;have a:bH X [(160,pv aS aI (λs i=>dB (jX s i.toNat)) λs i=>[cf s=ab,3<=i,i<=s.length,s.length<=4000000])]:=.cons I3 .nil;refine ck a rfl ?_ ?_
 .simp[bE];omega
 refine AK.kq (λj=>j<=5/\uH t f (5-j)=cutAt t f) (λj:Nat=>[(0,dS t),(1,dI f),(5,dI (f+3+j))]) (λ_=>[]) (λj=>5-j) 0 rfl ?_ rfl ak ⟨by omega,rfl⟩ ?_
 .simp
 rintro j ⟨p,b⟩;by_cases h:j<5/\f+3+j<t.length
 .obtain⟨k,hk⟩:∃k,5-j=k+1:=⟨4-j,by omega⟩
  have d:f+(7-k)=f+3+j:=by omega
  rw[hk]at b;simp only[uH,d]at b;rw[aY (by omega)]at b;have e:((f:Int)+3+j).toNat=f+3+j:=by omega
  cases c:jX t (f+3+j)with
  |true =>
   rw[c,bo rfl]at b;refine aU a [(11,ab),(16,ab),(22,ab)] rfl ?_ (AK.iC (cz.zero rfl ?_))
   .simp only[au,bE,e,c,m,a9,eq_self,aF,aD];omega
   .simp[<-b]
  |false =>
   rw[c,aY (by simp)]at b;refine aU a [(11,ab),(16,ab),(22,af)] rfl ?_ (AK.gg (j+1) rfl ?_ rfl ak ⟨by omega,by grind⟩ (by omega))
   .simp only[au,bE,e,c,m,a9,eq_self,aF,aD];omega
   .simp;omega
 .have e:cutAt t f=min (f+8) t.length:=by
   rw[<-b];rcases cN j 5 with g|g
   .grind [L9]
   .rw[show 5-j=0 by omega];rfl
  have l:bE .i64 ((min (f+8) t.length:Nat):Int):=by simp only[bE];omega
  rcases cN j 5 with g|g
  .refine aU a [(11,ab),(16,af)] rfl ?_ (AK.leave rfl rfl ?_)
   .simp only[au,bE,a9,bR];omega
   refine ck a rfl ?_ ?_
   .simp only[au,bE];omega
   refine AK.law (yb ((min (f+8) t.length:Nat):Int) rfl rfl rfl (by omega) l) rfl rfl ?_;refine ck a rfl ak (AK.bC rfl ?_);simp[e]
  .refine aU a [(11,af)] rfl ?_ (AK.leave rfl rfl ?_)
   .simp only[au,bE,a9,bR];omega
   refine ck a rfl ?_ ?_
   .simp only[au,bE];omega
   refine AK.law (yb ((min (f+8) t.length:Nat):Int) rfl rfl rfl (by omega) l) rfl rfl ?_;refine ck a rfl ak (AK.bC rfl ?_);simp[e]
def TM:eh X 135 (pv aS aI (λs i=>dI (cutAt s i.toNat)) λs i=>[cf s=ab,0<=i,i<=s.length,s.length<=4000000]):=.sI λs i h=>by
 obtain⟨a,c,d,b⟩:=h;obtain⟨m,rfl⟩:∃m:Nat,i=m:=⟨i.toNat,by omega⟩
 exact I4 s m a (by omega) b
abbrev RK(t:Bs):C:=.fn (.func 134) [] [.rp [.str t]]
theorem PV(t:Bs):Ev X 86 [dS t] [] (.e (.one (.c (RK t)))) []:=by refine Ev.bQ Tryz.func86 rfl λa=>?_;refine qi [] 5 rfl ak ?_;refine AK.freeze 1 0 rfl rfl rfl ?_;exact bu rfl ak (AK.bC rfl)
def I5{T:Type}(text:Bs)(n:cf text=ab)(p:text.length<=4000000){N0:Nat}{φ0:Fr}{g:Loop}(b B1 B2:T->bg)(R:Nat->T->Prop)(d:T)(o:R 0 d)(hB:∀t,b t≠.rX/\B1 t≠.rX/\B2 t≠.rX)(yc:∀f t,f<text.length->R f t->Yields (ι:={a:T // R (cutAt text f) a}) X 3 [dI f,dI (cutAt text f)] [b t,B1 t,B2 t,.loop N0 φ0 g] ab (λa=>[b a.1,B1 a.1,B2 a.1,.loop N0 φ0 g])):
  ek (ι:={t:T // R text.length t}) X 134 [.e (.one (.ref 3)),.e (.one (.c (.rp [.str text])))] [b d,B1 d,B2 d,.loop N0 φ0 g] (λ_=>.fD []) (λi=>[b i.1,B1 i.1,B2 i.1,.loop N0 φ0 g]):=by
 refine ek.Lc Tryz.func134 rfl rfl rfl (AK.of_code ?_);have j:bH X [(135,pv aS aI (λs i=>dI (cutAt s i.toNat)) λs i=>[cf s=ab,0<=i,i<=s.length,s.length<=4000000])]:=.cons TM .nil;refine ck j rfl ak ?_;show AW X _ (.loop _) _ _ _;refine AW.loop (S:=T×Nat) (λx=>x.2<=text.length/\R x.2 x.1) (λx=>[(0,.e (.one (.ref 3))),(1,.e (.one (.c (.rp [.str text])))),(3,dI x.2)]) (λx=>[b x.1,B1 x.1,B2 x.1,.loop N0 φ0 g]) (λx=>text.length-x.2) (d,0) ⟨jc _,o⟩ (db rfl (by simp)) rfl ?_;rintro⟨t,f⟩ ⟨m,k⟩;simp only at m k;refine AK.of_code ?_;by_cases h:f<text.length
 .have l:=mI text f h;refine aU j [(8,ab)] rfl ?_ ?_
  .simp only[au,n,a9,eq_self,aF,aD];omega
  refine AK.yield (yc f t h k) rfl rfl rfl rfl rfl rfl λa=>?_;refine aU j [(16,af)] rfl ?_ ?_
  .simp
  refine⟨(a.1,cutAt text f),⟨l.2.1,a.2⟩,?_,db rfl (by simp),rfl⟩;grind
 .have e:f=text.length:=by omega
  subst e;refine aU j [(8,af)] rfl ?_ ?_
  .simp
  refine AK.Lh rfl rfl ?_;exact⟨⟨t,k⟩,.inr rfl,rfl,sj (hB t).1 (sj (hB t).2.1 (sj (hB t).2.2 rfl)),[],.fD [],[],rfl,rfl,rfl,ak⟩
def UD(h:o.op=.binOp op t x (.const (.pointer ae)) ty){e:av}(g:P.underlying t=aa (.pointer e)){c:Bool}{lt rt:Tr}{a b:Int}(m:η x=.e (.one (.ref l)))(y:dF l σ=aa (.cj (nQ E (.nd lt a b rt))))(p:η (.const (.pointer ae))=.e (.one (.c .iD)))(q:jv op af=aa c):bL P o η σ (.e (.one (.c (.bool c)))) σ:=by
 refine x9 h g (b:=af) ?_ q;intro s u v j i d;rw[m]at i;rw[p]at d;replace d:=fe d;cases d;obtain⟨_,L,r,rfl,_⟩:=(i:gH σ s u (.ref l));obtain⟨_,⟨b,_,_,_,_,k,_⟩,_⟩:=j.box l _ L (b7 y) r;rw[k];have n:(Op.equal t (.pointer (aa ⟨b,0,ae⟩)) (.pointer ae)).run P s.w=.ok af s.w:=by show(aZ (9999+1) t _ _).run P s.w=_;unfold aZ;simp[underlying,g]
 have f:∀es,(Op.equal t (.pointer (aa ⟨b,0,ae⟩)) (.pointer ae)).events P s.w es=es:=λes=>by show(aZ (9999+1) t _ _).events P s.w es=es;unfold aZ;simp[underlying,g]
 exact⟨_,ae,rfl,rfl,rfl,by cases op<;>simp[eqGuard],λes=>by cases op<;>simp[eqGuard],n,f⟩
abbrev QN(a b:Int):D:=.e (.agg [.c (.int .i64 a),.c (.int .i64 b)])
abbrev Kb:av:=149
def Cg(a b:Int)(t:Tr):∃l x y r,t.put a b=.nd l x y r:=by
 cases t with
 |nil=>exact⟨_,_,_,_,rfl⟩
 |nd l x y r =>
  simp only[Tr.put];split
  .grind
  split<;>exact⟨_,_,_,_,rfl⟩
def ND:∀(ks:List Nat)(j:Nat),j<0->ks[j]?=aa j:=λ_ j a=>absurd a (by omega)
def kB:∀j,j<1->([0]:List Nat)[j]?=aa j:=λj a=>by grind
def Ch(a b:Int)(r:bE .i64 a)(s:bE .i64 b):∀t:Tr,Ev X 85 [.e (.one (zN t 0)),QN a b] (wJ Kb t) (.e (.one (.ref 0))) [.cj (nQ Kb (t.put a b))]
 |.nil=>by refine Ev.bQ Tryz.func85 rfl λv=>?_;refine bu rfl ak ?_;refine AK.law (uF rfl Tryz.underlying76 rfl rfl rfl) rfl rfl ?_;refine bu rfl ak ?_;refine AK.jR 4 1 0 0 (lt:=.nil) (rt:=.nil) rfl rfl (λh=>absurd rfl h) (λh=>absurd rfl h) (λh=>absurd rfl h) ?_;exact AK.cX [1] rfl (by simp) rfl rfl rfl (ND _)
 |.nd lt x y rt=>by
  have o:=Ch a b r s lt;have i2:=Ch a b r s rt;obtain⟨c,k,f,i,p⟩:=Cg a b lt;obtain⟨g,l,m,d,q⟩:=Cg a b rt;have u:(Tr.nd lt x y rt).put a b=if a<x then .nd (lt.put a b) x y rt else if x<a then .nd lt x y (rt.put a b)else .nd lt a b rt:=rfl;rw[u];rw[p]at o⊢;rw[q]at i2⊢;have c1:bH X [(85,zR [.e (.one (zN lt 0)),QN a b] (wJ Kb lt) (.e (.one (.ref 0))) [.cj (nQ Kb (.nd c k f i))])]:=.cons (Dw o) .nil;have c2:bH X [(85,zR [.e (.one (zN rt 0)),QN a b] (wJ Kb rt) (.e (.one (.ref 0))) [.cj (nQ Kb (.nd g l m d))])]:=.cons (Dw i2) .nil;clear o i2 u p q;refine Ev.bQ Tryz.func85 rfl λv=>?_;refine bu rfl ak ?_;refine AK.law (UD rfl Tryz.underlying76 rfl rfl rfl rfl) rfl rfl ?_;refine bu rfl ak ?_;refine AK.LD 0 0 rfl rfl ?_;by_cases j:a<x
  .rw[bo j];cases lt<;>cases rt<;>refine bm c1 [(15,ab)] rfl (by simp only[au,a9,aF,aD];and_intros<;>first|rfl|exact j) ?_
   .refine AK.jR 4 0 2 9 (lt:=.nd c k f i) (rt:=.nil) rfl rfl (λ_=>rfl) (λh=>absurd rfl h) (λ_ h=>absurd rfl h) ?_;exact AK.cX [0] rfl (by simp) rfl rfl rfl kB
   .refine AK.jR 4 0 3 2 (lt:=.nd c k f i) (rt:=_) rfl rfl (λ_=>rfl) (λ_=>rfl) (λ_ _=>by decide) ?_;exact AK.cX [0] rfl (by simp) rfl rfl rfl kB
   .refine AK.jR 4 0 2 9 (lt:=.nd c k f i) (rt:=.nil) rfl rfl (λ_=>rfl) (λh=>absurd rfl h) (λ_ h=>absurd rfl h) ?_;exact AK.cX [0] rfl (by simp) rfl rfl rfl kB
   .refine AK.jR 4 0 2 3 (lt:=.nd c k f i) (rt:=_) rfl rfl (λ_=>rfl) (λ_=>rfl) (λ_ _=>by decide) ?_;exact AK.cX [0] rfl (by simp) rfl rfl rfl kB
  rw[aY j];by_cases n:x<a
  .rw[bo n];cases lt<;>cases rt<;>refine bm c2 [(15,af),(33,ab)] rfl (by simp only[au,a9,bR,aF,aD];and_intros<;>first|rfl|exact j|exact n) ?_
   .refine AK.jR 4 0 9 2 (lt:=.nil) (rt:=.nd g l m d) rfl rfl (λh=>absurd rfl h) (λ_=>rfl) (λh=>absurd rfl h) ?_;exact AK.cX [0] rfl (by simp) rfl rfl rfl kB
   .refine AK.jR 4 0 9 2 (lt:=.nil) (rt:=.nd g l m d) rfl rfl (λh=>absurd rfl h) (λ_=>rfl) (λh=>absurd rfl h) ?_;exact AK.cX [0] rfl (by simp) rfl rfl rfl kB
   .refine AK.jR 4 0 2 3 (lt:=_) (rt:=.nd g l m d) rfl rfl (λ_=>rfl) (λ_=>rfl) (λ_ _=>by decide) ?_;exact AK.cX [0] rfl (by simp) rfl rfl rfl kB
   .refine AK.jR 4 0 2 3 (lt:=_) (rt:=.nd g l m d) rfl rfl (λ_=>rfl) (λ_=>rfl) (λ_ _=>by decide) ?_;exact AK.cX [0] rfl (by simp) rfl rfl rfl kB
  .rw[aY n];cases lt<;>cases rt<;>refine bO [(15,af),(33,af)] rfl (by simp only[au,bR,aF,aD];and_intros<;>first|rfl|exact j|exact n) ?_
   .refine AK.jR 4 0 9 9 (lt:=.nil) (rt:=.nil) rfl rfl (λh=>absurd rfl h) (λh=>absurd rfl h) (λh=>absurd rfl h) ?_;exact AK.cX [0] rfl (by simp) rfl rfl rfl kB
   .refine AK.jR 4 0 9 2 (lt:=.nil) (rt:=_) rfl rfl (λh=>absurd rfl h) (λ_=>rfl) (λh=>absurd rfl h) ?_;exact AK.cX [0] rfl (by simp) rfl rfl rfl kB
   .refine AK.jR 4 0 2 9 (lt:=_) (rt:=.nil) rfl rfl (λ_=>rfl) (λh=>absurd rfl h) (λ_ h=>absurd rfl h) ?_;exact AK.cX [0] rfl (by simp) rfl rfl rfl kB
   .refine AK.jR 4 0 2 3 (lt:=_) (rt:=_) rfl rfl (λ_=>rfl) (λ_=>rfl) (λ_ _=>by decide) ?_;exact AK.cX [0] rfl (by simp) rfl rfl rfl kB
end
section
open Go.Proofs Go.Conc Go.Conc.Lib Go.ConcR.Gen
open Go.ConcN (WgLive PayAt Has RW AtR0)
open Go.ConcN.Gen
open Go.ConcR (KK WgAt stA smA rd wr mk Payload DC0)
def Me:Mb=#[{dst:=ae,op:=.defer {callee:=.value (.func 140),args:=#[.tmp 0],argTypes:=#[211]},type:=0,pos:= "l12_snap.go:81",after:=#[],guard:=ae}]:=by kernel_rfl
def bW(a:ai):aX:={baseD 139 with defers:=[dcall 140 #[a]]}
abbrev tW(v0 v1 v2 v3 v4 v5:ai):Array ai:=#[v0,v1,v2,v3,v4,v5,ah,ah,ah,ah,ah,ah,ah]
def TO(v0 v1 v2 v3 v4 v5:ai)(w:ay):Goes ag af (λ_ _=>True) DC0 (λg _=>g=G ((bW v0).aT ⟨tW v0 v1 v2 v3 v4 v5,[]⟩ [.code (.region 1 Mc ab)]) [vT]) 8 (born ag (yg #[v0,v1,v2,v3,v4,v5])) w:=by
  have b:True:=ak;have a:True->True->True:=λ_ _=>trivial;refine Goes.step rfl (λw1 h1=>?_);rw[I8];simp only[goes_go];refine⟨⟨rfl,rfl⟩,?_⟩;clear h1;rw[Me]
  u_c aA a b
  u_reg a b
  u_defer a b
  u_c az a b
  exact Goes.stop λ_ _=>rfl
def ZW(T:Array ai):QuitsD ag 2 0 (G {(baseD 139).at ⟨T,[]⟩ []with mode:=.returning} [vT]):=by
  have a:Tryz.f139.results=#[]:=by kernel_rfl
  refine QuitsD.ctl (g':=G vT []) rfl (λw=>?_) ?_
  · simp[G,aG,unwind,doReturn,results,Frame.at,baseD,vT,Tryz.func139,a,seen,GStep.after,goexitEntry]
  refine QuitsD.ctl (g':={G vT []with status:=.finished}) rfl (λw=>?_) ⟨rfl,rfl⟩;simp[G,aG,unwind,vT,goexitEntry,Frame.catches];rfl
section
variable {Y:Lay}
def tailW(x:Nat)(b:Y.kc=2)(T:Array ai)(w:ay)(a:WgLive 211 Y.Wg w/\Has Y.C (Y.kc*x+1-1) (val x 0) w):
    ∃m,Goes ag af (RW 211 Y.Wg Y.C (2*n) 0 (Y.kc*x+1-1)) DC0 (AtR0 ag 211 Y.Wg Y.C (2*n) 0 (Y.kc*x+1) (val x 0)) m (G ((bW (.pointer (aa ⟨Y.Wg,0,ae⟩))).aT ⟨T,[]⟩ [.inRegion vS.toArray []]) [vT]) w:=by
  refine⟨26,?_⟩;have e:(bW (.pointer (aa ⟨Y.Wg,0,ae⟩))).aT ⟨T,[]⟩ [.inRegion vS.toArray []]=(baseD 139).at ⟨T,[dcall 140 #[.pointer (aa ⟨Y.Wg,0,ae⟩)]]⟩ [.inRegion vS.toArray []]:=rfl;rw[e]
  u_c az kn_rely a
  u_c stepG_end kn_rely a
  u_in kn_rely a
  rw[stepG_unwind_enter (c:=body_done RN) rfl DC.f_done (by kernel_rfl) (by kernel_rfl)];simp only[goes_go];refine⟨by u_nil,?_⟩;have d:=WA (P:=ag) (L:=RN) (Wg:=Y.Wg) (C:=Y.C) (n:=2*n) (Low:=0) (x:=Y.kc*x+1) (val:=val x 0) (c:={(baseD 139).at ⟨T,[]⟩ []with mode:=.returning}) (cs:=[vT]) DC rfl (ZW T) _ a;exact d
def rd_str{l:Bs}(h:Rd M v (.str l)):v=.string ⟨l.toArray⟩:=by
  cases h with
  | str h1 h2=>rw[<-h1]
def rd_bool{b:Bool}(h:Rd M v (.bool b)):v=.bool b:=by cases h;rfl
def U9:aC:=oW ae (.store 214 (.tmp 12) (.tmp 11)) 0 #[⟨6,.data⟩,⟨5,.data⟩,⟨5,.chain⟩,⟨0,.phase⟩,⟨1,.phase⟩,⟨2,.phase⟩,⟨3,.phase⟩,⟨4,.phase⟩,⟨5,.phase⟩]
def WB{x:Nat}(hx:x<n)(F:Y.kc=2){ps:List bG}{K:Int}(B:val x 0=.string ⟨((dg k ps K).getD []).toArray⟩)(z:val x 1=.bool (dg k ps K).isSome){T:Array ai}(m:du [] s (T.getD 12 ah) (xW k ps K n x Y.C 6))(l:du [] s (T.getD 11 ah) (Yk (dg k ps K))):
    KW ag 211 Y (2*n) val x (G ((bW (.pointer (aa ⟨Y.Wg,0,ae⟩))).aT ⟨T,[]⟩ [.inRegion vS.toArray [7]]) [vT]) s:=by
  have m:T.getD 12 ah=.pointer (aa ⟨Y.C,x*2,ae⟩):=Rd.eu m;have l:T.getD 11 ah=.agg #[val x 0,val x 1]:=by
    obtain⟨vs,h1,d⟩:=l
    match vs,d with
    | [],d=>exact d.elim
    | [_],d=>exact d.2.elim
    | _::_::_::_,d=>exact d.2.2.elim
    | [u0,u1],d =>
      rw[h1,rd_str d.1,rd_bool d.2.1,B,z]
  refine⟨rfl,λw1 hr K4 Mf=>?_⟩;obtain⟨cs,c,Z⟩:=K4;have L:Y.kc*x=x*2:=by grind
  have H:∀v∈[val x 0,val x 1],v.oneCell'=ab:=by
    intro v Q;simp only[eb,oF,jy]at Q;rcases Q with rfl|rfl
    · rw[B];rfl
    · rw[z];rfl
  have r:x*2+0+[val x 0,val x 1].length<=cs.size:=by grind
  have p:=run_storeCells_at ag Y.C (x*2) 214 [val x 0,val x 1] 0 cs w1 c r H;simp only[iO,fb,gO,bF]at p;generalize q:(cs.toList.take (x*2)++[val x 0,val x 1]++cs.toList.drop (x*2+2)).toArray=new at p;have W:new.size=cs.size:=by grind
  have t:=setRow_heap w1 Y.C cs new 214 (0,0) c;have w:∀o,(w1.setRow Y.C new).cell? ⟨Y.C,o,ae⟩=new[o]?:=λo=>cell_setRow_same w1 Y.C o cs new 214 (0,0) c;have J:∀o,w1.cell? ⟨Y.C,o,ae⟩=cs[o]?:=λo=>by simp[aP,c]
  have V:∀i,i<2->new[x*2+i]?=aa (val x i):=by
    intro i hi;rw[<-q];have M:(cs.toList.take (x*2)).length=x*2:=by grind
    rw[mm];simp only[iL];rw[gp (by omega),M]
    match i,hi with
    | 0,_=>simp
    | 1,_=>simp
  have O:∀o,(o<x*2∨x*2+2<=o)->new[o]?=cs[o]?:=by
    intro o I;rw[<-q];have M:(cs.toList.take (x*2)).length=x*2:=by grind
    rw[mm];simp only[iL];rcases I with I|I
    · grind
    · rw[gp (by omega),M,gp (by grind)]
      simp only[fb,gO,pK];rw[show x*2+2+(o-x*2-(0+1+1))=o by omega];simp
  have A:(Value.agg #[val x 0,val x 1]).cells=#[val x 0,val x 1]:=rfl;have E:(aq (⟨T,[]⟩:Act).eval U9).run ag w1=.ok .skip (w1.setRow Y.C new):=by have y:(⟨T,[]⟩:Act).eval (.tmp 12)=.pointer (aa ⟨Y.C,x*2,ae⟩):=m;have u:(⟨T,[]⟩:Act).eval (.tmp 11)=.agg #[val x 0,val x 1]:=l;simp[aq,U9,oW,y,u,Instr.storeAt,bt,storeVar,(tok 214 i214 rfl).run_sizeOf,i214,A,p]
  have f:∀e∈(aq (⟨T,[]⟩:Act).eval U9).events ag w1 #[],∃j,j<2/\e=Ix Y.C (x*2+j):=by
    intro N f;have y:(⟨T,[]⟩:Act).eval (.tmp 12)=.pointer (aa ⟨Y.C,x*2,ae⟩):=m;have u:(⟨T,[]⟩:Act).eval (.tmp 11)=.agg #[val x 0,val x 1]:=l;have e:aq (⟨T,[]⟩:Act).eval U9=(do storeVar 214 ⟨Y.C,x*2,ae⟩ (.agg #[val x 0,val x 1]);pure .skip):=by simp[aq,U9,oW,y,u,Instr.storeAt,bt]
    rw[e]at f;have D:N∈(storeCells ⟨Y.C,x*2,ae⟩ [val x 0,val x 1]).events ag w1 #[]:=by simp only[storeVar,aR,(tok 214 i214 rfl).run_sizeOf,i214,A,aV,events_sizeOf,dz,cg,bT,cu,Sem.events_pure]at f;simpa[p]using f
    rcases dT [val x 0,val x 1] 0 cs w1 #[] c r H N D with U|⟨j,_,R,rfl⟩
    · grind
    grind
  have g:WgLive 211 Y.Wg (w1.setRow Y.C new):=by
    obtain⟨st,P,h⟩:=Mf;refine⟨st,P,?_⟩;show(w1.setRow Y.C new).heap[Y.Wg]?=_;rw[setRow_other w1 Y.C Y.Wg new ?_]
    · exact h
    · intro e
      have d:w1.heap[Y.Wg]?=aa (Go.ConcR.wgBlock 211 st P):=h;rw[e,c]at d;simp[Go.ConcR.wgBlock]at d;exact absurd d.2 (by decide)
  refine⟨_,w1.setRow Y.C new,_,G1 (b:=bW (.pointer (aa ⟨Y.Wg,0,ae⟩))) (a:=⟨T,[]⟩) (k:=[]) (ops:=vS.toArray) (i:=7) (rest:=[]) (o:=U9) rfl rfl (by simp[bW,baseD]) E,?_,?_,?_⟩
  · refine⟨rfl,rfl,rfl,by simp,λb S=>setRow_other w1 Y.C b new S,⟨new,t,by grind⟩,λo I=>?_,λi hi=>?_⟩
    · grind
    · rw[F]at hi
      rw[w,L];grind
  · intro e X
    obtain⟨j,R,rfl⟩:=f e (Go.Conc.mem_seen X);exact⟨x*2+j,rfl,by omega,by omega⟩
  · exact tailW x F T _ ⟨g,by show(w1.setRow Y.C new).cell? _=_;grind⟩
def worker(e:eh (Cx.work ag) 141 (mH k)){x:Nat}(p:x<n)(l:Y.kc=2){ps:List bG}{d:Int}(i:val x 0=.string ⟨((dg k ps d).getD []).toArray⟩)(f:val x 1=.bool (dg k ps d).isSome)(w:aE [] s)(F:s.β=[]){v1 v2 v3 v4 v5:ai}(v:Rd s.M v1 (.rp [.int .i64 k]))(o:Rd s.M v2 (.rp [.sl af 2 ps.length (cP.fn ps)]))(m:Rd s.M v3 (.rp [.int .i64 d]))(r:Rd s.M v4 (.rp [.val (.slice (aa ⟨Y.C,0,ae⟩) n n)]))(q:Rd s.M v5 (.rp [.int .i64 x])):
    eE (Cx.work ag) E0 (KW ag 211 Y (2*n) val x) (born ag (yg #[.pointer (aa ⟨Y.Wg,0,ae⟩),v1,v2,v3,v4,v5])) s:=by
  refine eE.goes (X:=Cx.work ag) (R:=λ_ _=>True) (D:=DC0) (Stop:=λg _=>g=G ((bW (.pointer (aa ⟨Y.Wg,0,ae⟩))).aT ⟨tW (.pointer (aa ⟨Y.Wg,0,ae⟩)) v1 v2 v3 v4 v5,[]⟩ [.code (.region 1 Mc ab)]) [vT])
    (λb=>aE [] b/\b.M=s.M) (λb s2 h u=>⟨h.1.rely u,u.M.trans h.2⟩) (λ_ _ _ _=>trivial) ?_ (λb h=>cw.xB h.1.mem) ?_ 8 _ s ⟨w,rfl⟩ (TO _ _ _ _ _ _ _)
  · rintro b es h w' ⟨rfl,rfl⟩
    exact⟨rfl,.inl (.quiet h.1)⟩
  · rintro g b ⟨j,y⟩ rfl
    rw[PY];refine fL.toE (λ_ _ _ h=>h) ?_;refine(Wz e ps d n x Y.C p (.pointer (aa ⟨Y.Wg,0,ae⟩))).region (by kernel_rfl) (by simp[bW,baseD]) ⟨by simp[tW],⟨[],ak⟩,λt=>?_⟩ rfl j λs2 a B c A z st=>.stop ?_
    · rw[<-y]at v o m r q
      match t with
      | 0=>exact Rd.val rfl
      | 1=>exact v
      | 2=>exact o
      | 3=>exact m
      | 4=>exact r
      | 5=>exact q
      | t+6=>trivial
    · obtain⟨T,E⟩:=a
      obtain rfl:E=[]:=A;exact WB p l i f (c 12) (c 11)
end
end
section
open Go.Proofs Go.Conc Go.Conc.Lib
open Go.ConcN (WgLive PayAt Has RW AtR0)
open Go.ConcR (KK WgAt stA smA rd wr mk Payload DC0)
def yh:Code->Code|.seq a _=>a|c=>c
def lE:Code->Code|.seq _ a=>a|c=>c
def WC:Code->Code|.block _ a=>a|c=>c
def ZX:Code->Code|.loop a=>a|c=>c
def TP:Code->Array aC|.region _ o _=>o|_=>#[]
noncomputable def F5:Code:=(Tryz.f92.body).getD .skip
noncomputable def iX:Code:=ZX (WC (lE (yh (lE (lE (lE F5))))))
noncomputable def cR4:Code:=yh iX
noncomputable def TQ:Code:=WC (yh (lE (lE iX)))
noncomputable def cR5:Code:=yh TQ
noncomputable def BJ:Array aC:=TP (yh (lE TQ))
noncomputable def zm:Array aC:=TP (lE (lE TQ))
noncomputable def Oy:Code:=lE (lE (lE iX))
noncomputable def n9:Code:=lE (lE (lE (lE F5)))
noncomputable def zn:Array aC:=TP (yh n9)
noncomputable def rM:Code:=lE n9
def DD:iX=.seq cR4 (.seq (.cond (.tmp 21) .skip (.exit 0)) (.seq (.block 1 (.seq cR5 (.seq (.region 6 BJ af) (.region 7 zm af)))) Oy)):=by kernel_rfl
def Mg:n9=.seq (.region 9 zn af) rM:=by kernel_rfl
def NQ(j:Fr)(σ1:List bg):Post:=λe φ σ=>e=.normal/\oO φ j/\σ=σ1
structure At(σ0:List bg)(s0:St)(φ:Fr)(σ:List bg)(a:Act)(s:St):Prop where
 fr:cx 45 σ s φ a
 hh:aE σ s
 st:c6 σ0 s0 σ s
section
variable {σ0:List bg}{s0:St}{φ j:Fr}{σ σ1:List bg}{a:Act}{s:St}
def At.rely(h:At σ0 s0 φ σ a s){d:St}(c:cw s d):At σ0 s0 φ σ a d:=⟨h.fr.rely c h.hh,h.hh.rely c,h.st.trans c.stepW⟩
structure Oz(b:Nat)(s:St):Prop where
 own:¬s.own b
 β:∀L∈s.β,b∉L.bs
 M:∀o,s.M b o=ae
 lt:b<s.w.heap.size
def Oz.step{b:Nat}(h:Oz b s0)(st:c6 σ0 s0 σ s):Oz b s :=
 ⟨by rw[st.own];exact h.own,λL d e=>by
  rcases st.wu L d b e with h1|⟨c,f,h1⟩
  .have:=h.lt;omega
  .exact h.β c f h1,λo=>by rw[st.jo b h.lt h.β];exact h.M o,c9 h.lt st.size⟩
def At.apart{Wg:Nat}(e:Oz Wg s0):Apart Wg (At σ0 s0 φ σ a) :=
 ⟨λ_ _ h d=>h.rely d,λ_ h=>⟨σ,h.hh⟩,λ_ h=>let c:=e.step h.st;⟨c.own,c.β,c.M⟩⟩
variable {X:Cx ag}{S:ar->St->Prop}{b:aX}{k:List Item}{cs:List aX}
def At.ctl(h:At σ0 s0 φ σ a s){g g':ar}(d:g.status=.running)(e:∀w,aG ag X.main g w=.go g' w #[])(kk:∀c,At σ0 s0 φ σ a c->fL X S g' c):fL X S g s :=
 .ctl h.hh d e λc h1=>kk c (h.rely h1)
def At.code(h:At σ0 s0 φ σ a s)(l:b.kind≠.early){c:Code}(g:AW X 45 c (NQ j σ1) φ σ)(kk:∀a1 s1,At σ0 s0 j σ1 a1 s1->fL X S (G (b.aT a1 k) cs) s1):fL X S (G (b.aT a (.code c::k)) cs) s:=by refine g s a h.fr h.hh b k cs S l ?_;rintro e φ' σ' s' a' ⟨rfl,hl,rfl⟩ f i d;exact kk a' s' ⟨f.le hl,i,h.st.trans d⟩
end
def fL.live{Wg:Nat}{E:St->St->Array Event->Prop}{S:ar->St->Prop}{g:ar}{s:St}(h:fL (Cx.lead ag 211 Wg) S g s)(i:Clear (λb=>b=Wg) s)(hl:WgLive 211 Wg s.w):
  eE (Cx.lead ag 211 Wg) E (λg s=>S g s/\WgLive 211 Wg s.w) g s:=by
 induction h with
 |stop h=>exact⟨.leaf,h,hl⟩
 |@step g s r ns ne hr h1 h2 _ p =>
  refine .step hr λf c=>?_;have n:=c.2 hl;have d:Clear (λb=>b=Wg) f:=⟨λb e=>by rw[c.1.own];exact i.own b e,λb e=>by rw[c.1.β];exact i.β b e,λb e o=>by rw[c.1.M];exact i.M b e o,λb e=>c9 (i.lt b e) c.1.size⟩
  obtain⟨⟨σ,σ',hh,l,st⟩,m⟩:=h2 f c;refine⟨_,_,_,h1 f c,.inl ⟨⟨σ,σ',hh,l,st⟩,m⟩,p f c (d.step st) ?_⟩;obtain⟨x,y,q⟩:=n;exact⟨x,y,by show(ns f).w.heap[Wg]?=_;rw[st.fA Wg (d.lt Wg rfl) (d.β Wg rfl)];exact q⟩
 |ghost hg _ p=>exact .ghost hg (p (i.ghost hg) (by rw[hg.w];exact hl))
 |forget hx _ _ _=>exact hx.elim
 |y9 hj _ _=>exact hj.elim
def Oz.clear{Wg:Nat}{s:St}(h:Oz Wg s):Clear (λb=>b=Wg) s:=⟨λb e=>e▸h.own,λb e=>e▸h.β,λb e=>e▸h.M,λb e=>e▸h.lt⟩
section
variable (k:Int)(ps:List bG)(ns:List Int)(C Wg:Nat)
def nD(i:Nat):Fr:=[(3,.e (.one (.c (.rp [.int .i64 k])))),(4,.e (.one (.c (.rp [.sl af 2 ps.length (cP.fn ps)])))),(8,.e (.one (.c (.rp [.val (.slice (aa ⟨C,0,ae⟩) ns.length ns.length)])))),(9,.e (.one (.v (.pointer (aa ⟨Wg,0,ae⟩))))),
 (18,cI.sl ns),(19,dI ns.length),(20,dI i)]
variable {k ps ns C Wg}{X:Cx ag}{σ:List bg}
def pR4{i:Nat}(hi:i<=ns.length):AW X 45 cR4 (NQ ((21,dB (decide (i<ns.length)))::nD k ps ns C Wg i) σ) (nD k ps ns C Wg i) σ:=by
 refine AK.of_code ?_;by_cases h:i<ns.length
 .refine aW [(21,ab)] rfl ?_ ⟨rfl,db rfl ?_,rfl⟩
  .simp;omega
  .simp[h]
 .refine aW [(21,af)] rfl ?_ ⟨rfl,db rfl ?_,rfl⟩
  .simp;omega
  .simp[h]
abbrev d5:List bg:=[.dead,.dead,.dead,.dead,.dead]
def pR5{i:Nat}(hi:i<ns.length):AW X 45 cR5 (NQ ((10,.e (.one (.ptr 5 0)))::(11,.e (.one (.ptr 6 0)))::nD k ps ns C Wg i) [.dead,.dead,.dead,.dead,.dead,.cells 3 [.c (.int .i64 i)],.cells 3 [.c (.int .i64 (ns.getD i 0))]]) (nD k ps ns C Wg i) d5:=by
 refine AK.of_code ?_;refine bu rfl ?_ ⟨rfl,db rfl ?_,?_⟩
 .simp;omega
 .simp
 grind
def pR8{i:Nat}(hi:i<ns.length)(c:ns.length<=4000000):AW X 45 Oy (NQ (nD k ps ns C Wg (i+1)) d5) (nD k ps ns C Wg i) d5:=by
 refine AK.of_code ?_;refine bu rfl ?_ ⟨rfl,db rfl ?_,rfl⟩
 .simp[bE];omega
 .simp
variable {σ0:List bg}{s0:St}{S:ar->St->Prop}{b:aX}{kk:List Item}{cs:List aX}
abbrev d7:List bg:=[.dead,.dead,.dead,.dead,.dead,.dead,.dead]
variable (k ps ns C Wg)in
abbrev sv(i:Nat):Fr:=(11,.e (.one (.c (.rp [.int .i64 (ns.getD i 0)]))))::(10,.e (.one (.c (.rp [.int .i64 i]))))::nD k ps ns C Wg i
noncomputable abbrev uK(kk:List Item):List Item:=.code (.region 7 zm af)::.inBlock 1::.code Oy::.inLoop iX::.inBlock 0::kk
def wL{P:aJ}{main:Bool}{b:aX}{a:Act}{k:List Item}{cs:List aX}{w:ay}{c x y:Code}(h:c=.seq x y):aG P main (G (b.aT a (.code c::k)) cs) w=.go (G (b.aT a (.code x::.code y::k)) cs) w:=by grind[oL]
def toAdd{i:Nat}(hi:i<ns.length)(n:b.kind≠.early){a:Act}{s:St}(h:At σ0 s0 (nD k ps ns C Wg i) d5 a s)(K:∀m l,At σ0 s0 (sv k ps ns C Wg i) d7 m l->fL X S (G (b.aT m (.inRegion BJ [0]::uK kk)) cs) l):
  fL X S (G (b.aT a (.code iX::.inLoop iX::.inBlock 0::kk)) cs) s:=by
 refine h.ctl rfl (λw=>wL DD) λs h=>?_;refine h.code n (pR4 (Nat.le_of_lt hi)) λa s h=>?_;refine h.ctl rfl (λw=>oL) λs h=>?_;have q:a.eval (.tmp 21)=.bool ab:=by have:=h.fr.slot 21;simp only[hi,j5]at this;exact rd_bool (fe this)
 refine h.ctl rfl (λw=>wv q) λs h=>?_;refine h.ctl rfl (λw=>GZ) λs h=>?_;refine h.ctl rfl (λw=>oL) λs h=>?_;refine h.ctl rfl (λw=>sZ) λs h=>?_;refine h.ctl rfl (λw=>oL) λs h=>?_;have h:At σ0 s0 (nD k ps ns C Wg i) d5 a s:=⟨h.fr.le (db rfl (by simp)),h.hh,h.st⟩
 refine h.code n (pR5 hi) λa s h=>?_;obtain⟨l,w1,o,d,g⟩:=cx.freeze 10 5 (E:=3) (cs:=[.c (.int .i64 i)]) (cc:=[.int .i64 i]) rfl rfl rfl h.fr h.hh;refine .ghost (.of h.hh d w1 (g.nN h.hh)) ?_;obtain⟨s2,w2,p,e,f⟩:=cx.freeze 11 6 (E:=3) (cs:=[.c (.int .i64 (ns.getD i 0))]) (cc:=[.int .i64 (ns.getD i 0)]) rfl rfl rfl o d;refine .ghost (.of d e w2 (f.nN d)) ?_;have h:At σ0 s0 (sv k ps ns C Wg i) d7 a s2:=⟨p.le (db rfl (by simp)),e,h.st.trans ((g.nN h.hh).trans (f.nN d))⟩
 refine h.ctl rfl (λw=>oL) λs h=>?_;refine h.ctl rfl (λw=>qP) λs h=>?_;exact K a s h
def o6:aC:={dst:=aa 25,op:=.call {callee:=.value (.func 138),args:=#[.tmp 9,.const (.int .i64 1)],argTypes:=#[211,3]},type:=0,pos:= "l12_snap.go:79",after:=#[],guard:=ae}
theorem HM:BJ=#[o6]:=by kernel_rfl
def Mh{i:Nat}(m:b.kind≠.early){a:Act}{s:St}(h:At σ0 s0 (sv k ps ns C Wg i) d7 a s)(K:∀c,At σ0 s0 (sv k ps ns C Wg i) d7 a c->fL X S (G (Frame.enter ag 138 #[.pointer (aa ⟨Wg,0,ae⟩),.int .i64 1] .normal) (b.aT a (.inRegion BJ [0]::uK kk)::cs)) c):
  fL X S (G (b.aT a (.inRegion BJ [0]::uK kk)) cs) s:=by
 refine .next rfl λc d=>?_;have e:=h.rely (X.iS d);have g:a.eval (.tmp 9)=.pointer (aa ⟨Wg,0,ae⟩):=Rd.eu (e.fr.slot 9);have l:(aq a.eval o6).run ag c.w=.ok (.enter 138 #[.pointer (aa ⟨Wg,0,ae⟩),.int .i64 1]) c.w:=by have:=run_call_body (P:=ag) (a:=a) (w:=c.w) (o:=o6) (f:=138) (fn:=Tryz.f138) rfl Tryz.func138 (by kernel_rfl) (by kernel_rfl);rw[this,<-g];simp only[List.map_toArray,qM,List.map_nil];rfl
 have n:(aq a.eval o6).events ag c.w #[]=#[]:=events_call_body (P:=ag) (a:=a) (w:=c.w) (o:=o6) (f:=138) (fn:=Tryz.f138) rfl Tryz.func138 (by kernel_rfl) (by kernel_rfl) #[];have p:listed ag b.fn a o6 c.w=#[]:=by unfold listed;grind[seen_none]
 refine⟨_,c,#[],?_,.quiet e.hh,K c e⟩;have:=pM (P:=ag) (main:=X.main) (b:=b) (a:=a) (k:=uK kk) (cs:=cs) (w:=c.w) (ops:=BJ) (i:=0) (rest:=[]) (o:=o6) (by grind[HM]) rfl m l;grind
def WE:aC:={dst:=aa 26,op:=.makeFunc (.func 139) #[] #[.tmp 9,.tmp 3,.tmp 4,.tmp 11,.tmp 8,.tmp 10],type:=1,pos:= "l12_snap.go:80",after:=#[],guard:=ae}
def P0:aC:={dst:=ae,op:=.go {callee:=.value (.tmp 26),args:=#[],argTypes:=#[]},type:=0,pos:= "l12_snap.go:80",after:=#[⟨0,.data⟩],guard:=ae}
theorem HN:zm=[WE,P0].toArray:=by kernel_rfl
variable (k ps ns C Wg)in
abbrev F6(i:Nat):AM.C:=.fn (.func 139) [] [.val (.pointer (aa ⟨Wg,0,ae⟩)),.rp [.int .i64 k],.rp [.sl af 2 ps.length (cP.fn ps)],.rp [.int .i64 (ns.getD i 0)],.rp [.val (.slice (aa ⟨C,0,ae⟩) ns.length ns.length)],.rp [.int .i64 i]]
def WG{i:Nat}:OA X 45 [WE,P0] WE ((25,.any)::sv k ps ns C Wg i) d7 (.e (.one (.c (F6 k ps ns C Wg i)))) d7:=by have h:xj tt [] [] [WE,P0] ((25,.any)::sv k ps ns C Wg i) d7 WE=aa (.e (.one (.c (F6 k ps ns C Wg i))),ae,[]):=rfl;exact gV tok bH.nil h ak
def ZY{i:Nat}(p:b.kind≠.early){a:Act}{s:St}(h:At σ0 s0 (sv k ps ns C Wg i) d7 a s)(K:∀v f c,At σ0 s0 (sv k ps ns C Wg i) d7 f c->Rd c.M v (F6 k ps ns C Wg i)->f.tmps.getD 26 ah=v->fL X S (G (b.aT f (.inRegion zm [1]::.inBlock 1::.code Oy::.inLoop iX::.inBlock 0::kk)) cs) c):
  fL X S (G (b.aT (a.put (aa 25) (.tuple #[])) (.inRegion BJ []::uK kk)) cs) s:=by
 have o:At σ0 s0 ((25,.any)::sv k ps ns C Wg i) d7 (a.put (aa 25) (.tuple #[])) s:=⟨h.fr.put (by decide) ak,h.hh,h.st⟩
 refine o.ctl rfl (λw=>jr) λs h=>?_;refine h.ctl rfl (λw=>qP) λs h=>?_;rw[HN];refine WG s _ h.fr h.hh b _ cs S 0 [1] p rfl λv c m g e=>?_;have m:Rd c.M v (F6 k ps ns C Wg i):=fe m;have n:=((h.fr.mono e h.hh.len).put (d:=26) (v:=v) (x:=.any) (by decide) ak)
 have l:26<(a.put (aa 25) (.tuple #[])).tmps.size:=by rw[h.fr.size];decide
 refine K v _ c ⟨n.le (db rfl ?_),g,h.st.trans e⟩ m (K9 l);simp
def TR{i:Nat}(hi:i<ns.length)(o:ns.length<=4000000)(d:b.kind≠.early)(e:σ0.length<=5){a:Act}{s:St}(h:At σ0 s0 (sv k ps ns C Wg i) d7 a s)(K:∀l m,At σ0 s0 (nD k ps ns C Wg (i+1)) d5 l m->fL X S (G (b.aT l (.code iX::.inLoop iX::.inBlock 0::kk)) cs) m):
  fL X S (G (b.aT a (.inRegion zm []::.inBlock 1::.code Oy::.inLoop iX::.inBlock 0::kk)) cs) s:=by
 have f:cx 45 (d5++[.dead,.dead]) s (nD k ps ns C Wg i) a:=h.fr.le (db rfl (by simp));have c:aE (d5++[.dead,.dead]) s:=h.hh;have g:c6 σ0 s0 (d5++[.dead,.dead]) s:=h.st;have n:eH s (s.cut d5.length):=⟨rfl,λ_ _ _ h=>h,λ_ _ _=>rfl,c.mem,λb d=>d.imp id λ⟨L,q,d⟩=>⟨L,fN q,d⟩⟩
 refine .ghost n ?_;have h:At σ0 s0 (nD k ps ns C Wg i) d5 a (s.cut d5.length):=⟨⟨f.size,f.defers.imp λ_ p=>p.drop rfl,λt=>(f.slot t).drop (n7 rfl)⟩,c.drop rfl,g.drop e⟩
 refine h.ctl rfl (λw=>jr) λs h=>?_;refine h.ctl rfl (λw=>rY) λs h=>?_;refine h.code d (pR8 hi o) λa s h=>?_;exact h.ctl rfl (λw=>zw) λs h=>K a s h
end
theorem yi{b:aX}(c:b.roundOf=ae)(a:Act)(t:List Item):b.aT a t=b.at ⟨a.tmps,a.defers++b.defers⟩ t:=by cases b;simp only at c;subst c;rfl
section
variable {k:Int}{ps:List bG}{ns:List Int}{Y:Lay}{val:Nat->Nat->ai}{σ0:List bg}{s0:St}{b:aX}{kk:List Item}{cs:List aX}
def RP{a:Act}{w:ay}{c c1 c2 c3 c4 c5:ai}(d:a.tmps.getD 26 ah=.func (.func 139) #[] #[c,c1,c2,c3,c4,c5]):(aq a.eval P0).run ag w=.ok (.spawn (yg #[c,c1,c2,c3,c4,c5])) w/\(aq a.eval P0).events ag w #[]=#[]:=by
 have e:a.eval (.tmp 26)=.func (.func 139) #[] #[c,c1,c2,c3,c4,c5]:=d;constructor
 .simp[aq,P0,resolve,Deferred.ofValue,e,yg]
 .simp[aq,P0,resolve,Deferred.ofValue,e]
def WH(g:eh (Cx.work ag) 141 (mH k))(r:Y.kc=2)(f:b.roundOf=ae)(y:b.kind≠.early){i:Nat}(hi:i<ns.length)(n:val i 0=.string ⟨((dg k ps (ns.getD i 0)).getD []).toArray⟩)(m:val i 1=.bool (dg k ps (ns.getD i 0)).isSome){v:ai}{a:Act}{s:St}(h:At σ0 s0 (sv k ps ns Y.C Y.Wg i) d7 a s)(B:WgLive 211 Y.Wg s.w)(D:Rd s.M v (F6 k ps ns Y.C Y.Wg i))(u:a.tmps.getD 26 ah=v){Next:ar->St->Prop}(K:∀c,At σ0 s0 (sv k ps ns Y.C Y.Wg i) d7 a c->WgLive 211 Y.Wg c.w->Next (G (b.aT a (.inRegion zm []::.inBlock 1::.code Oy::.inLoop iX::.inBlock 0::kk)) cs) c):
  AtGo ag 211 Y (2*ns.length) val i Next (G (b.aT a (.inRegion zm [1]::.inBlock 1::.code Oy::.inLoop iX::.inBlock 0::kk)) cs) s:=by
 refine⟨rfl,λc d=>?_⟩;have x:=h.rely d.1;have l:Rd c.M v (F6 k ps ns Y.C Y.Wg i):=by rw[d.1.M];exact D
 cases l with
 |fn fs cc Zo V5 f1 f2 g1 g2 r1 r2 =>
 have p:fs=[]:=jF Zo;subst p;have q:cc=[f2 0,f2 1,f2 2,f2 3,f2 4,f2 5]:=by
  apply ji;intro j;have V5:cc.length=6:=V5
  match j with
  |0=>grind
  |1=>grind
  |2=>grind
  |3=>grind
  |4=>grind
  |5=>grind
  |j+6=>grind
 subst q;have z:f2 0=.pointer (aa ⟨Y.Wg,0,ae⟩):=Rd.eu (r2 0 _ rfl);obtain⟨A,q2⟩:=RP (a:=a) (w:=c.w) u;have e:Go.Conc.listed ag b.fn ⟨a.tmps,a.defers++b.defers⟩ P0 c.w=#[]:=by unfold Go.Conc.listed;have:=(RP (a:=⟨a.tmps,a.defers++b.defers⟩) (w:=c.w) u).2;grind[seen_none]
 have t:=stepG_spawn (P:=ag) (main:=ab) (b:=b) (a:=⟨a.tmps,a.defers++b.defers⟩) (k:=.inBlock 1::.code Oy::.inLoop iX::.inBlock 0::kk) (cs:=cs) (w:=c.w) (ops:=zm) (i:=1) (rest:=[]) (o:=P0) (by grind[HN]) rfl y A rfl;refine⟨G (b.aT a (.inRegion zm []::.inBlock 1::.code Oy::.inLoop iX::.inBlock 0::kk)) cs,born ag (yg #[f2 0,f2 1,f2 2,f2 3,f2 4,f2 5]),?_,rfl,?_,K c x (d.2 B)⟩
 .rw[yi f,yi f,t,e];rfl
 .rw[z];exact worker g hi r n m (s:=c.child) ⟨x.hh.mem,rfl,by simp,by simp[St.child],by simp[St.child],by simp[St.child]⟩ rfl (r2 1 _ rfl) (r2 2 _ rfl) (r2 3 _ rfl) (r2 4 _ rfl) (r2 5 _ rfl)
def o9:aC:={dst:=aa 28,op:=.call {callee:=.value (.func 142),args:=#[.tmp 9],argTypes:=#[211]},type:=0,pos:= "l12_snap.go:85",after:=#[],guard:=ae}
theorem HO:zn=#[o9]:=by kernel_rfl
variable {X:Cx ag}{S:ar->St->Prop}
def TS(j:b.kind≠.early){C Wg:Nat}{a:Act}{s:St}(h:At σ0 s0 (nD k ps ns C Wg ns.length) d5 a s)(K:∀g c,At σ0 s0 (nD k ps ns C Wg ns.length) d5 g c->fL X S (G (Frame.enter ag 142 #[.pointer (aa ⟨Wg,0,ae⟩)] .normal) (b.aT g (.inRegion zn [0]::.code rM::kk)::cs)) c):
  fL X S (G (b.aT a (.code iX::.inLoop iX::.inBlock 0::.code n9::kk)) cs) s:=by
 refine h.ctl rfl (λw=>wL DD) λs h=>?_;refine h.code j (pR4 (bh _)) λa s h=>?_;refine h.ctl rfl (λw=>oL) λs h=>?_;have m:a.eval (.tmp 21)=.bool af:=by have:=h.fr.slot 21;simp only[Nat.lt_irrefl,k9]at this;exact rd_bool (fe this)
 refine h.ctl rfl (λw=>wv m) λs h=>?_;refine h.ctl rfl (λw=>AP (k':=.code n9::kk) rfl) λs h=>?_;refine h.ctl rfl (λw=>wL Mg) λs h=>?_;refine h.ctl rfl (λw=>qP) λs h=>?_;have h:At σ0 s0 (nD k ps ns C Wg ns.length) d5 a s:=⟨h.fr.le (db rfl (by simp)),h.hh,h.st⟩
 refine .next rfl λc d=>?_;have e:=h.rely (X.iS d);have p:a.eval (.tmp 9)=.pointer (aa ⟨Wg,0,ae⟩):=Rd.eu (e.fr.slot 9);have l:(aq a.eval o9).run ag c.w=.ok (.enter 142 #[.pointer (aa ⟨Wg,0,ae⟩)]) c.w:=by have:=run_call_body (P:=ag) (a:=a) (w:=c.w) (o:=o9) (f:=142) (fn:=Tryz.f142) rfl Tryz.func142 (by kernel_rfl) (by kernel_rfl);grind
 have q:(aq a.eval o9).events ag c.w #[]=#[]:=events_call_body (P:=ag) (a:=a) (w:=c.w) (o:=o9) (f:=142) (fn:=Tryz.f142) rfl Tryz.func142 (by kernel_rfl) (by kernel_rfl) #[];have n:Go.Conc.listed ag b.fn a o9 c.w=#[]:=by unfold Go.Conc.listed;grind[seen_none]
 refine⟨_,c,#[],?_,.quiet e.hh,K a c e⟩;have:=pM (P:=ag) (main:=X.main) (b:=b) (a:=a) (k:=.code rM::kk) (cs:=cs) (w:=c.w) (ops:=zn) (i:=0) (rest:=[]) (o:=o9) (by grind[HO]) rfl j l;rw[n]at this;exact this
section
variable (k ps ns Y σ0 s0 b kk cs)
def Yl(g:ar)(s:St):Prop:=∃a,HF ag RN Y (At σ0 s0 (nD k ps ns Y.C Y.Wg ns.length) d5 a) (b.aT a (.inRegion zn [0]::.code rM::kk)) cs g s
def TF(g:ar)(s:St):Prop:=∃a,TW ag RN Y (At σ0 s0 (nD k ps ns Y.C Y.Wg ns.length) d5 a) (G (b.aT (a.put (aa 28) (.tuple #[])) (.inRegion zn []::.code rM::kk)) cs) g s
end
def anF(f:Oz Y.Wg s0)(c:b.roundOf=ae){g:ar}{s:St}(h:Yl k ps ns Y σ0 s0 b kk cs g s):
  eE (Cx.lead ag 211 Y.Wg) (Es Y.Wg) (AtW1 ag 211 Y (TF k ps ns Y σ0 s0 b kk cs) (Yl k ps ns Y σ0 s0 b kk cs)) g s:=by
 obtain⟨a,h⟩:=h;have e:(zn[0]?).bind (·.dst)=aa 28:=by rw[HO];rfl
 rw[yi c]at h;refine Wl (P:=ag) (L:=RN) (b₀:=b) (a₀:=⟨a.tmps,a.defers++b.defers⟩) (ops₀:=zn) (i₀:=0) (rest₀:=[]) (k₀:=.code rM::kk) (cs:=cs) DC (At.apart f) (λg s d=>⟨a,?_⟩) (λg s i=>⟨a,?_⟩) h
 .rw[yi c];rw[e]at d;exact d
 grind[yi]
def I9{P:aJ}{ty:av}{N n:Nat}{a:ar->St->Prop}:∀(r:Nat){g:ar}{s:St},eE (Cx.lead P ty Y.Wg) (Es Y.Wg) (λg s=>Spawns P ty Y N val n a r g s) g s->Spawns P ty Y N val n a r g s
 |0,_,_,h=>eE.bind h λ_ _ x=>x
 |_+1,_,_,h=>eE.bind h λ_ _ x=>x
def P1(p:eh (Cx.work ag) 141 (mH k))(z:Y.kc=2)(m:Oz Y.Wg s0)(j:b.roundOf=ae)(l:b.kind≠.early)(n:σ0.length<=5)(B:ns.length<=4000000)(u:∀i,i<ns.length->val i 0=.string ⟨((dg k ps (ns.getD i 0)).getD []).toArray⟩)(t:∀i,i<ns.length->val i 1=.bool (dg k ps (ns.getD i 0)).isSome):
  ∀(r:Nat),r<=ns.length->∀(a:Act) (s:St),At σ0 s0 (nD k ps ns Y.C Y.Wg (ns.length-r)) d5 a s->WgLive 211 Y.Wg s.w ->
   Spawns ag 211 Y (2*ns.length) val ns.length (Yl k ps ns Y σ0 s0 b kk cs) r (G (b.aT a (.code iX::.inLoop iX::.inBlock 0::.code n9::kk)) cs) s:=by
 intro r;induction r with
 |zero =>
  intro _ a s h c;rw[l7]at h;have:=fL.live (E:=Es Y.Wg) (TS (X:=Cx.lead ag 211 Y.Wg) (kk:=kk) (cs:=cs) (S:=λg s=>∃a,g=G (Frame.enter ag 142 #[.pointer (aa ⟨Y.Wg,0,ae⟩)] .normal) (b.aT a (.inRegion zn [0]::.code rM::kk)::cs)/\At σ0 s0 (nD k ps ns Y.C Y.Wg ns.length) d5 a s) l h λf o d=>.stop ⟨f,rfl,d⟩) (m.step h.st).clear c;refine eE.bind this ?_;rintro g s ⟨⟨a,rfl,h⟩,c⟩;exact Wn (P:=ag) (L:=RN) (Y:=Y) DC (At.apart m) (λg s I=>⟨a,I⟩) ⟨h,c⟩
 |succ r D =>
  intro J a s h c;have hi:ns.length-(r+1)<ns.length:=by omega
  generalize A:ns.length-(r+1)=i at h hi;have:=fL.live (E:=Es Y.Wg) (toAdd (X:=Cx.lead ag 211 Y.Wg) (kk:=.code n9::kk) (cs:=cs) (S:=λg s=>∃a,g=G (Frame.enter ag 138 #[.pointer (aa ⟨Y.Wg,0,ae⟩),.int .i64 1] .normal) (b.aT a (.inRegion BJ [0]::uK (.code n9::kk))::cs)/\At σ0 s0 (sv k ps ns Y.C Y.Wg i) d7 a s) hi l h λf o d=>Mh l d λs2 h2=>.stop ⟨f,rfl,h2⟩) (m.step h.st).clear c;refine eE.bind this ?_;rintro g s ⟨⟨a,rfl,h⟩,c⟩;have H:(BJ[0]?).bind (·.dst)=aa 25:=by rw[HM];rfl
  rw[yi j];refine ZM (P:=ag) (L:=RN) (Y:=Y) (F:=At σ0 s0 (sv k ps ns Y.C Y.Wg i) d7 a) DC (At.apart m) (λs y=>?_) ⟨h,c⟩;rw[H];have:=fL.live (E:=Es Y.Wg) (ZY (X:=Cx.lead ag 211 Y.Wg) (kk:=.code n9::kk) (cs:=cs) (S:=λg s=>∃v a,g=G (b.aT a (.inRegion zm [1]::.inBlock 1::.code Oy::.inLoop iX::.inBlock 0::.code n9::kk)) cs/\At σ0 s0 (sv k ps ns Y.C Y.Wg i) d7 a s/\Rd s.M v (F6 k ps ns Y.C Y.Wg i)/\a.tmps.getD 26 ah=v) l y.1 λv f o d x e=>.stop ⟨v,f,rfl,d,x,e⟩) (m.step y.1.st).clear y.2;rw[yi j]at this;refine eE.bind this ?_;rintro g s ⟨⟨v,a,rfl,h,x,e⟩,c⟩;rw[A];refine⟨.leaf,WH p z j l hi (u i hi) (t i hi) h c x e λo d q=>?_⟩;refine I9 r ?_;have:=fL.live (E:=Es Y.Wg) (TR (X:=Cx.lead ag 211 Y.Wg) (kk:=.code n9::kk) (cs:=cs) (S:=λg s=>∃a,g=G (b.aT a (.code iX::.inLoop iX::.inBlock 0::.code n9::kk)) cs/\At σ0 s0 (nD k ps ns Y.C Y.Wg (i+1)) d5 a s) hi B l n d λf o d=>.stop ⟨f,rfl,d⟩) (m.step d.st).clear q;refine eE.bind this ?_;rintro g s ⟨⟨a,rfl,h⟩,c⟩;refine⟨.leaf,D (by omega) a s ?_ c⟩;grind
end
end
section
open Go.Sort (swp insInner insOuter ltInt)
variable {X:Cx ag}
def Np(n:Int):Ev X 218 [dI n] [] (dB af) []:=by refine Ev.bQ Tryz.func218 rfl λa=>?_;exact aW [(5,af)] rfl (by simp) (AK.bC rfl)
abbrev Xr:dJ:=kD aI (λ_=>dB af) λ_=>[]
def aaC:eh X 218 Xr:=.pF λn _=>Np n
def QD(x y:Int):Ev X 191 [dI x,dI y] [] (dB (ltInt x y)) []:=by have a:bH X [(218,Xr)]:=.cons aaC .nil;refine Ev.bQ Tryz.func191 rfl λb=>?_;refine ck a rfl (by simp) (AK.bC rfl ?_);simp[ltInt]
abbrev vF:dJ:=pv aI aI (λx y=>dB (ltInt x y)) λ_ _=>[]
def yR:eh X 191 vF:=.sI λx y _=>QD x y
def eI(d:Array Int)(j:Nat):List C:=[.int .i64 d[j]!]
abbrev lf(n:Nat):D:=.e (.one (.bp 0 (.sl n 1 0 n)))
abbrev bI(n:Nat)(d:Array Int):bg:=.buf 3 1 n (eI d)
def iI:∀j,j<1->([0]:List Nat)[j]?=aa j:=λj a=>by grind
end
section
open Go.Sort (swp insInner insOuter insertionSort ltInt)
variable {X:Cx ag}
def iB{d:Array Int}(c:d.size=n)(hi:i<n)(e:j<n){f:Nat->List C}(b:cE n f (eI d)):cE n (pW j [.int .i64 d[i]!] (pW i [.int .i64 d[j]!] f)) (eI (swp d i j)):=by
 intro k hk;have g:(swp d i j)[k]! = if k=j then d[i]! else if k=i then d[j]! else d[k]! := by unfold swp;grind
 have a:=b k hk;simp only[eI,pW]at a⊢;grind
theorem size_swp(d:Array Int)(i j:Nat):(swp d i j).size=d.size:=by simp[swp]
theorem Cd{a:Nat}{d:Array Int}(h:a<j)(b:ltInt d[j]! d[j-1]! = ab):insInner ltInt a j d=insInner ltInt a (j-1) (swp d j (j-1)):=by
 cases j with
 |zero=>omega
 |succ j =>
  simp only[qD]at b⊢;rw[insInner,bo];grind
def tU{a:Nat}{d:Array Int}(h:a<j->ltInt d[j]! d[j-1]! = af):insInner ltInt a j d=d:=by
 cases j with
 |zero=>rfl
 |succ j =>
  simp only[qD]at h;rw[insInner,aY];grind
theorem Uz(n:Nat)(d:Array Int)(a b:Nat)(p:d.size=n)(w:b<=n)(v:a<=n)(t:n<=4000000):
  Ev X 185 [lf n,dI a,dI b] [bI n d] (.fD []) [bI n (insertionSort ltInt d a b)]:=by
 have g:bH X [(191,vF)]:=.cons yR .nil;refine Ev.bQ Tryz.func185 rfl λu=>?_;refine bu rfl (by simp[bE];omega) ?_;refine AK.cJ 1 (λs:Nat×Array Int=>s.2.size=n/\a+1<=s.1/\s.1<=n+1/\insOuter ltInt a b s.1 s.2=insertionSort ltInt d a b) (λs=>[(0,lf n),(1,dI a),(2,dI b),(6,dI s.1)]) (λs=>[bI n s.2]) (λs=>b-s.1) (a+1,d) rfl ?_ rfl ?_ rfl ⟨p,by omega,by grind,rfl⟩ ?_
 .simp[cE]
 .simp[cE]
 rintro⟨i,d1⟩ ⟨o,hi,l,e⟩;simp only at o hi l e;by_cases h:i<b
 .refine aW [(12,ab)] rfl (by simp;omega) ?_;refine AK.cJ 1 (λs:Nat×Array Int=>s.2.size=n/\s.1<=i/\insInner ltInt a s.1 s.2=insInner ltInt a i d1) (λs=>[(0,lf n),(1,dI a),(2,dI b),(6,dI i),(7,dI s.1)]) (λs=>[bI n s.2]) (λs=>s.1) (i,d1) rfl ?_ rfl ?_ rfl ⟨o,by simp,rfl⟩ ?_
  .simp[cE]
  .simp[cE]
  rintro⟨j,d2⟩ ⟨f,q,c⟩;simp only at f q c;by_cases r:a<j
  .have k:((j:Int)-1).toNat=j-1:=by omega
   by_cases m:ltInt d2[j]! d2[j-1]! = ab
   .refine aU g [(18,ab),(29,ab)] rfl ?_ ?_
    .simp[bE,k,m];omega
    refine AK.aQ (j-1,swp d2 j (j-1)) rfl ?_ ?_ ?_ ?_
    .simp;omega
    .simp only[au.cat,au,k,bF,b9,aD,aF];exact iB f (by omega) (by omega) (λ_ _=>rfl)
    .refine⟨by grind[size_swp],by omega,?_⟩;grind[Cd]
    .simp;omega
   .refine aU g [(18,ab),(29,af)] rfl ?_ (AK.leaveD rfl rfl ?_)
    .simp[bE,k,m];omega
    refine bu rfl ?_ (AK.aQ (i+1,d2) rfl ?_ ?_ ?_ ?_)
    .simp[bE];omega
    .simp
    .simp[cE]
    .refine⟨f,by omega,by grind,?_⟩;simp only;rw[<-e,insOuter.eq_1 ltInt a b i,bo h,<-c,tU λ_=>by grind]
    .simp;omega
  .refine aU g [(18,af)] rfl ?_ (AK.leaveD rfl rfl ?_)
   .simp[bE];omega
   refine bu rfl ?_ (AK.aQ (i+1,d2) rfl ?_ ?_ ?_ ?_)
   .simp[bE];omega
   .simp
   .simp[cE]
   .refine⟨f,by omega,by grind,?_⟩;simp only;rw[<-e,insOuter.eq_1 ltInt a b i,bo h,<-c,tU λx=>absurd x r]
   .simp;omega
 .refine aW [(12,af)] rfl (by simp;omega) (AK.leaveD rfl rfl ?_);have:insertionSort ltInt d a b=d1:=by rw[<-e,insOuter,aY h]
  rw[this];exact cz.qb [0] rfl ak rfl rfl rfl iI
end
section
open Go.Sort (swp siftDown ltInt)
variable {X:Cx ag}
def Nx{hi first root:Nat}{d:Array Int}(h:¬2*root+1<hi):siftDown ltInt hi first root d=d:=by rw[siftDown,dif_pos (by omega)]
theorem Ny{hi first root:Nat}{d:Array Int}(h:2*root+1<hi)(a:2*root+1+1<hi->ltInt d[first+(2*root+1)]! d[first+(2*root+1)+1]! = af)(b:ltInt d[first+root]! d[first+(2*root+1)]! = ab):
  siftDown ltInt hi first root d=siftDown ltInt hi first (2*root+1) (swp d (first+root) (first+(2*root+1))):=by rw[siftDown.eq_1 ltInt hi first root d,dif_neg (by omega),aY (by grind),aY (by grind)]
theorem Ic{hi first root:Nat}{d:Array Int}(h:2*root+1<hi)(a:2*root+1+1<hi->ltInt d[first+(2*root+1)]! d[first+(2*root+1)+1]! = af)(b:ltInt d[first+root]! d[first+(2*root+1)]! = af):
  siftDown ltInt hi first root d=d:=by rw[siftDown.eq_1 ltInt hi first root d,dif_neg (by omega),aY (by grind),bo (by grind)]
theorem UC{hi first root:Nat}{d:Array Int}(h:2*root+1+1<hi)(a:ltInt d[first+(2*root+1)]! d[first+(2*root+1+1)]! = ab)(b:ltInt d[first+root]! d[first+(2*root+1+1)]! = ab):
  siftDown ltInt hi first root d=siftDown ltInt hi first (2*root+1+1) (swp d (first+root) (first+(2*root+1+1))):=by rw[siftDown.eq_1 ltInt hi first root d,dif_neg (by omega),bo (by grind),aY (by grind),dif_pos (by omega)]
theorem QI{hi first root:Nat}{d:Array Int}(h:2*root+1+1<hi)(a:ltInt d[first+(2*root+1)]! d[first+(2*root+1+1)]! = ab)(b:ltInt d[first+root]! d[first+(2*root+1+1)]! = af):
  siftDown ltInt hi first root d=d:=by rw[siftDown.eq_1 ltInt hi first root d,dif_neg (by omega),bo (by grind),bo (by grind)]
theorem QJ(n:Nat)(d:Array Int)(lo hi first:Nat)(m:d.size=n)(r:first+hi<=n)(o:lo<=n)(p:n<=4000000):
  Ev X 213 [lf n,dI lo,dI hi,dI first] [bI n d] (.fD []) [bI n (siftDown ltInt hi first lo d)]:=by
 have i:bH X [(191,vF)]:=.cons yR .nil;refine Ev.bQ Tryz.func213 rfl λq=>?_;refine bu rfl ak ?_;refine AK.cJ 1 (λs:Nat×Array Int=>s.2.size=n/\s.1<=n/\siftDown ltInt hi first s.1 s.2=siftDown ltInt hi first lo d) (λs=>[(0,lf n),(1,dI lo),(2,dI hi),(3,dI first),(8,dI s.1)]) (λs=>[bI n s.2]) (λs=>hi-s.1) (lo,d) rfl ?_ rfl ?_ rfl ⟨m,o,rfl⟩ ?_
 .simp[cE]
 .simp[cE]
 rintro⟨root,d1⟩ ⟨j,l,f⟩;simp only at j l f;by_cases h:2*root+1<hi
 .have c:((first:Int)+(2*(root:Int)+1)).toNat=first+(2*root+1):=by omega
  have e:((first:Int)+(2*(root:Int)+1)+1).toNat=first+(2*root+1+1):=by omega
  by_cases t:2*root+1+1<hi
  .by_cases g:ltInt d1[first+(2*root+1)]! d1[first+(2*root+1+1)]! = ab
   .have k:((first:Int)+(2*(root:Int)+1+1)).toNat=first+(2*root+1+1):=by omega
    have a:((first:Int)+(root:Int)).toNat=first+root:=by omega
    by_cases b:ltInt d1[first+root]! d1[first+(2*root+1+1)]! = ab
    .refine bm i [(16,af),(20,ab),(35,ab),(51,ab)] rfl ?_ (AK.aQ (2*root+1+1,swp d1 (first+root) (first+(2*root+1+1))) rfl ?_ ?_ ?_ ?_)
     .simp only[au,bF,c,e,a,k,g,b,bE,a9,bR,aF,aD];and_intros<;>omega
     .simp only[au.cat,au,aF,aD];grind
     .simp only[au.cat,au,bF,c,e,a,k,aD,aF];exact iB j (by omega) (by omega) (λ_ _=>rfl)
     .grind [size_swp,UC]
     grind
    .rw[oG]at b;rw[show siftDown ltInt hi first lo d=d1 by grind[QI]];refine bm i [(16,af),(20,ab),(35,ab),(51,af)] rfl ?_ (AK.fR (cz.mk [0] rfl ak rfl rfl rfl iI));simp only[au,bF,c,e,a,k,g,b,bE,a9,bR,aF,aD];and_intros<;>omega
   .rw[oG]at g;have a:((first:Int)+(root:Int)).toNat=first+root:=by omega
    by_cases b:ltInt d1[first+root]! d1[first+(2*root+1)]! = ab
    .refine bm i [(16,af),(20,ab),(35,af),(51,ab)] rfl ?_ (AK.aQ (2*root+1,swp d1 (first+root) (first+(2*root+1))) rfl ?_ ?_ ?_ ?_)
     .simp only[au,bF,c,e,a,g,b,bE,a9,bR,aF,aD];and_intros<;>omega
     .simp only[au.cat,au,aF,aD];grind
     .simp only[au.cat,au,bF,c,e,a,aD,aF];exact iB j (by omega) (by omega) (λ_ _=>rfl)
     .grind [size_swp,Ny]
     grind
    .rw[oG]at b;rw[show siftDown ltInt hi first lo d=d1 by grind[Ic]];refine bm i [(16,af),(20,ab),(35,af),(51,af)] rfl ?_ (AK.fR (cz.mk [0] rfl ak rfl rfl rfl iI));simp only[au,bF,c,e,a,g,b,bE,a9,bR,aF,aD];and_intros<;>omega
  .have g:True:=ak;have a:((first:Int)+(root:Int)).toNat=first+root:=by omega
   by_cases b:ltInt d1[first+root]! d1[first+(2*root+1)]! = ab
   .refine bm i [(16,af),(20,af),(51,ab)] rfl ?_ (AK.aQ (2*root+1,swp d1 (first+root) (first+(2*root+1))) rfl ?_ ?_ ?_ ?_)
    .simp only[au,bF,c,e,a,b,bE,a9,bR,aF,aD];and_intros<;>omega
    .simp only[au.cat,au,aF,aD];grind
    .simp only[au.cat,au,bF,c,e,a,aD,aF];exact iB j (by omega) (by omega) (λ_ _=>rfl)
    .grind [size_swp,Ny]
    grind
   .rw[oG]at b;rw[show siftDown ltInt hi first lo d=d1 by grind[Ic]];refine bm i [(16,af),(20,af),(51,af)] rfl ?_ (AK.fR (cz.mk [0] rfl ak rfl rfl rfl iI));simp only[au,bF,c,e,a,b,bE,a9,bR,aF,aD];and_intros<;>omega
 .refine aW [(16,ab)] rfl (by simp only[au,bE,a9,aF,aD];and_intros<;>omega) (AK.leaveD rfl rfl ?_);rw[<-f,Nx h];exact cz.qb [0] rfl ak rfl rfl rfl iI
end
section
open Go.Sort (swp order2 median medianAdjacent choosePivot Hint ltInt)
variable {X:Cx ag}
abbrev bN(k:Nat):bg:=.cells 3 [.c (.int .i64 k)]
abbrev Vb:D:=.e (.one (.ptr 1 0))
abbrev tII(a b:Nat):D:=.fD [.one (.c (.int .i64 a)),.one (.c (.int .i64 b))]
def Ie:∀j,j<2->([0,1]:List Nat)[j]?=aa j:=λj a=>by grind
def uZ(n:Nat)(d:Array Int)(a b sw:Nat)(j:a<n)(k:b<n)(g:n<=4000000)(f:sw<=1000):
  Ev X 233 [lf n,dI a,dI b,Vb] [bI n d,bN sw] (tII (order2 ltInt d a b sw).1 (order2 ltInt d a b sw).2.1) [bI n d,bN (order2 ltInt d a b sw).2.2]:=by
 have c:bH X [(191,vF)]:=.cons yR .nil;refine Ev.bQ Tryz.func233 rfl λi=>?_;by_cases h:ltInt d[b]! d[a]! = ab
 .have e:order2 ltInt d a b sw=(b,a,sw+1):=by simp[order2,h]
  rw[e];refine bm c [(18,ab)] rfl ?_ (AK.cX [0,1] rfl ?_ rfl rfl rfl Ie)
  .simp only[au,bF,b9,h,bE,aF,aD];and_intros<;>omega
  .simp
 .have e:order2 ltInt d a b sw=(a,b,sw):=by simp[order2,h]
  rw[e];rw[oG]at h;refine bm c [(18,af)] rfl ?_ (AK.cX [0,1] rfl ?_ rfl rfl rfl Ie)
  .simp only[au,bF,b9,h,bE,aF,aD];and_intros<;>omega
  .simp
def oq{d:Array Int}{a sw:Nat}(c:a<n)(e:b<n):(order2 ltInt d a b sw).1<n/\(order2 ltInt d a b sw).2.1<n/\(order2 ltInt d a b sw).2.2<=sw+1:=by unfold order2;split<;>simp only<;>omega
theorem Ap(n:Nat)(d:Array Int)(a b c sw:Nat)(g:a<n)(h:b<n)(i:c<n)(e:n<=4000000)(k:sw<=900):
  Ev X 217 [lf n,dI a,dI b,dI c,Vb] [bI n d,bN sw] (dI (median ltInt d a b c sw).1) [bI n d,bN (median ltInt d a b c sw).2]:=by refine Ev.bQ Tryz.func217 rfl λl=>?_;have f:=oq (d:=d) (sw:=sw) g h;have j:=oq (d:=d) (sw:=(order2 ltInt d a b sw).2.2) f.2.1 i;refine dk rfl ak ?_;refine AK.cQ (uZ n d a b sw g h e (by omega)) [0,1] rfl ?_;refine dk rfl ak ?_;refine AK.cQ (uZ n d (order2 ltInt d a b sw).2.1 c (order2 ltInt d a b sw).2.2 f.2.1 i e (by omega)) [0,1] rfl ?_;refine dk rfl ak ?_;refine AK.cQ (uZ n d (order2 ltInt d a b sw).1 (order2 ltInt d (order2 ltInt d a b sw).2.1 c (order2 ltInt d a b sw).2.2).1 (order2 ltInt d (order2 ltInt d a b sw).2.1 c (order2 ltInt d a b sw).2.2).2.2 f.1 j.1 e (by omega)) [0,1] rfl ?_;refine dk rfl ak (AK.cX [0,1] rfl ?_ rfl rfl rfl Ie);simp[median]
def JH{d:Array Int}{a c sw:Nat}(g:a<n)(h:b<n)(i:c<n):(median ltInt d a b c sw).1<n/\(median ltInt d a b c sw).2<=sw+3:=by have e:=oq (d:=d) (sw:=sw) g h;have f:=oq (d:=d) (sw:=(order2 ltInt d a b sw).2.2) e.2.1 i;have j:=oq (d:=d) (sw:=(order2 ltInt d (order2 ltInt d a b sw).2.1 c (order2 ltInt d a b sw).2.2).2.2) e.1 f.1;unfold median;grind
theorem Ce(n:Nat)(d:Array Int)(a sw:Nat)(f:1<=a)(g:a+1<n)(c:n<=4000000)(b:sw<=900):
  Ev X 216 [lf n,dI a,Vb] [bI n d,bN sw] (dI (medianAdjacent ltInt d a sw).1) [bI n d,bN (medianAdjacent ltInt d a sw).2]:=by
 refine Ev.bQ Tryz.func216 rfl λe=>?_;obtain⟨a,rfl⟩:∃a',a=a'+1:=⟨a-1,by omega⟩
 refine dk rfl (by simp only[au,bE];and_intros<;>omega) ?_;have key:∀x y z:Int,x=(a:Int)->y=((a+1:Nat):Int)->z=((a+1+1:Nat):Int)->Ev X 217 [lf n,dI x,dI y,dI z,Vb] [bI n d,bN sw] (dI (median ltInt d a (a+1) (a+1+1) sw).1) [bI n d,bN (median ltInt d a (a+1) (a+1+1) sw).2]:=by rintro x y z rfl rfl rfl;exact Ap n d a (a+1) (a+1+1) sw (by omega) (by omega) (by omega) c b
 refine AK.cQ (key (((a+1:Nat):Int)-1) _ (((a+1:Nat):Int)+1) (by omega) rfl (by omega)) [0,1] rfl ?_;refine dk rfl ak (AK.cX [0,1] rfl ?_ rfl rfl rfl Ie);simp[medianAdjacent]
def oo:Hint->Int|.unknown=>0|.increasing=>1|.decreasing=>2
def yU(n:Nat)(d:Array Int){a c:Nat}(sw:Nat)(i:a<n)(k:b<n)(l:c<n)(f:n<=4000000)(e:sw<=900){x y z:Int}(h:x=a)(j:y=b)(g:z=c):
  Ev X 217 [lf n,dI x,dI y,dI z,Vb] [bI n d,bN sw] (dI (median ltInt d a b c sw).1) [bI n d,bN (median ltInt d a b c sw).2]:=by grind[Ap]
def nH(n:Nat)(d:Array Int){a:Nat}(sw:Nat)(f:1<=a)(g:a+1<n)(c:n<=4000000)(b:sw<=900){x:Int}(e:x=a):
  Ev X 216 [lf n,dI x,Vb] [bI n d,bN sw] (dI (medianAdjacent ltInt d a sw).1) [bI n d,bN (medianAdjacent ltInt d a sw).2]:=by grind[Ce]
def pg{d:Array Int}{a sw:Nat}(b:1<=a)(c:a+1<n):(medianAdjacent ltInt d a sw).1<n/\(medianAdjacent ltInt d a sw).2<=sw+3 :=
 JH (by omega) (by omega) (by omega)
abbrev qt(k:Nat):Hint:=if k=0 then .increasing else if k=12 then .decreasing else .unknown
def Nz{d:Array Int}{a:Nat}(c:8<=l)(b:l<50):choosePivot ltInt d a (a+l)=((median ltInt d (a+l / 4*1) (a+l / 4*2) (a+l / 4*3) 0).1,qt (median ltInt d (a+l / 4*1) (a+l / 4*2) (a+l / 4*3) 0).2):=by unfold choosePivot;grind
abbrev mA(d:Array Int)(a l:Nat):=medianAdjacent ltInt d (a+l / 4*1) 0
abbrev mB(d:Array Int)(a l:Nat):=medianAdjacent ltInt d (a+l / 4*2) (mA d a l).2
abbrev mC(d:Array Int)(a l:Nat):=medianAdjacent ltInt d (a+l / 4*3) (mB d a l).2
def NA{d:Array Int}{a:Nat}(b:50<=l):choosePivot ltInt d a (a+l)=((median ltInt d (mA d a l).1 (mB d a l).1 (mC d a l).1 (mC d a l).2).1,qt (median ltInt d (mA d a l).1 (mB d a l).1 (mC d a l).1 (mC d a l).2).2):=by unfold choosePivot;grind
def JF(n:Nat)(d:Array Int)(a b:Nat)(j:a<=b)(m:b<=n)(i:8<=b-a)(g:n<=4000000):
  Ev X 188 [lf n,dI a,dI b] [bI n d] (.fD [.one (.c (.int .i64 (choosePivot ltInt d a b).1)),.one (.c (.int .i64 (oo (choosePivot ltInt d a b).2)))]) [bI n d]:=by
 refine Ev.bQ Tryz.func188 rfl λk=>?_;obtain⟨l,rfl⟩:∃l,b=a+l:=⟨b-a,by omega⟩
 rw[AE]at i;by_cases h:l<50
 .refine bO [(32,ab),(34,af)] rfl ?_ ?_
  .simp only[au,bE,a9,bR,aF,aD];and_intros<;>omega
  refine AK.cQ (yU n d (a:=a+l / 4*1) (b:=a+l / 4*2) (c:=a+l / 4*3) 0 (by omega) (by omega) (by omega) g (by omega) (by omega) (by omega) (by omega)) [0,1] rfl ?_;rw[Nz i h];generalize median ltInt d (a+l / 4*1) (a+l / 4*2) (a+l / 4*3) 0=r;by_cases e:r.2=0
  .refine bO [(52,ab)] rfl (by simp[e]) (AK.cX [0] rfl ?_ rfl rfl rfl iI);simp[e,oo,qt]
  by_cases f:r.2=12
  .refine bO [(52,af),(55,ab)] rfl (by simp[f]) (AK.cX [0] rfl ?_ rfl rfl rfl iI);simp[f,oo,qt]
  .refine bO [(52,af),(55,af)] rfl (by simp[e];omega) (AK.cX [0] rfl ?_ rfl rfl rfl iI);simp[e,f,oo,qt]
 .refine bO [(32,ab),(34,ab)] rfl ?_ ?_
  .simp only[au,bE,a9,bR,aF,aD];and_intros<;>omega
  have o:(mA d a l).1<n/\(mA d a l).2<=0+3:=pg (d:=d) (a:=a+l / 4*1) (sw:=0) (n:=n) (by omega) (by omega);have p:(mB d a l).1<n/\(mB d a l).2<=(mA d a l).2+3:=pg (d:=d) (a:=a+l / 4*2) (sw:=(mA d a l).2) (n:=n) (by omega) (by omega);have q:(mC d a l).1<n/\(mC d a l).2<=(mB d a l).2+3:=pg (d:=d) (a:=a+l / 4*3) (sw:=(mB d a l).2) (n:=n) (by omega) (by omega);refine AK.cQ (nH n d (a:=a+l / 4*1) 0 (by omega) (by omega) g (by omega) (by omega)) [0,1] rfl ?_;refine dk rfl ak ?_;refine AK.cQ (nH n d (a:=a+l / 4*2) (mA d a l).2 (by omega) (by omega) g (by omega) (by omega)) [0,1] rfl ?_;refine dk rfl ak ?_;refine AK.cQ (nH n d (a:=a+l / 4*3) (mB d a l).2 (by omega) (by omega) g (by omega) (by omega)) [0,1] rfl ?_;refine dk rfl ak ?_;refine AK.cQ (yU n d (a:=(mA d a l).1) (b:=(mB d a l).1) (c:=(mC d a l).1) (mC d a l).2 (by omega) (by omega) (by omega) g (by omega) rfl rfl rfl) [0,1] rfl ?_;rw[NA (by omega)];generalize median ltInt d (mA d a l).1 (mB d a l).1 (mC d a l).1 (mC d a l).2=r;by_cases e:r.2=0
  .refine bO [(52,ab)] rfl (by simp[e]) (AK.cX [0] rfl ?_ rfl rfl rfl iI);simp[e,oo,qt]
  by_cases f:r.2=12
  .refine bO [(52,af),(55,ab)] rfl (by simp[f]) (AK.cX [0] rfl ?_ rfl rfl rfl iI);simp[f,oo,qt]
  .refine bO [(52,af),(55,af)] rfl (by simp[e];omega) (AK.cX [0] rfl ?_ rfl rfl rfl iI);simp[e,f,oo,qt]
end
section
open Go.Sort (swp reverseLoop reverseRange siftDown heapBuild heapPop heapSort ltInt)
variable {X:Cx ag}
def UB(n:Nat)(d:Array Int)(a b:Nat)(g:d.size=n)(q:1<=b)(o:a<=n)(p:b<=n)(l:n<=4000000):Ev X 189 [lf n,dI a,dI b] [bI n d] (.fD []) [bI n (reverseRange d a b)]:=by
 refine Ev.bQ Tryz.func189 rfl λm=>?_;refine bu rfl (by simp[bE];omega) ?_;refine AK.cJ 1 (λs:Nat×Nat×Array Int=>s.2.2.size=n/\s.1<=n/\s.2.1<n+1/\s.2.1<n/\reverseLoop s.1 s.2.1 s.2.2=reverseRange d a b) (λs=>[(0,lf n),(6,dI s.1),(7,dI s.2.1)]) (λs=>[bI n s.2.2]) (λs=>s.2.1-s.1) (a,b-1,d) rfl ?_ rfl ?_ rfl ⟨g,by grind,by grind,by grind,rfl⟩ ?_
 .simp;omega
 .simp[cE]
 rintro⟨i,j,d1⟩ ⟨f,hi,_,k,c⟩;simp only at f hi k c;by_cases h:i<j
 .refine bO [(13,ab)] rfl ?_ (AK.aQ (i+1,j-1,swp d1 i j) rfl ?_ ?_ ?_ ?_)
  .simp only[au,bF,b9,bE,a9,aF,aD];and_intros<;>omega
  .simp only[au.cat,au,aF,aD];and_intros<;>omega
  .simp only[au.cat,au,bF,b9,aD,aF];exact iB f (by omega) (by omega) (λ_ _=>rfl)
  .refine⟨by grind[size_swp],by grind,by grind,by grind,?_⟩;rw[<-c,reverseLoop.eq_1 i j d1,bo h]
  grind
 .have e:reverseRange d a b=d1:=by rw[<-c,reverseLoop,aY h]
  rw[e];refine aW [(13,af)] rfl (by simp;omega) (AK.leaveD rfl rfl ?_);exact cz.qb [0] rfl ak rfl rfl rfl iI
def Ez(n:Nat)(d:Array Int){lo hi first:Nat}(g:d.size=n)(f:first+hi<=n)(h:lo<=n)(a:n<=4000000){x y z:Int}(c:x=lo)(e:y=hi)(b:z=first):
  Ev X 213 [lf n,dI x,dI y,dI z] [bI n d] (.fD []) [bI n (siftDown ltInt hi first lo d)]:=by grind[QJ]
def Aq(hi first:Nat):∀(m root:Nat)(d:Array Int),hi-root<=m->(siftDown ltInt hi first root d).size=d.size:=by
 intro m;induction m with
 |zero=>intro root d h;rw[siftDown,dif_pos (by omega)]
 |succ m a =>
  intro root d h;rw[siftDown];grind[size_swp]
theorem QG(n:Nat)(d:Array Int)(a b:Nat)(q:d.size=n)(m:a<=b)(r:1<=b-a)(p:b<=n)(i:n<=4000000):Ev X 186 [lf n,dI a,dI b] [bI n d] (.fD []) [bI n (heapSort ltInt d a b)]:=by
 refine Ev.bQ Tryz.func186 rfl λt=>?_;obtain⟨l,rfl⟩:∃l,b=a+l:=⟨b-a,by omega⟩
 rw[AE]at r;refine dk rfl (by simp only[au,bE,aF,aD];and_intros<;>omega) ?_;refine AK.lB (S2:=Array Int) 0 rfl rfl (λd2=>d2.size=n/\d2=heapBuild ltInt l a ((l-1) / 2+1) d) (λ_=>[(0,lf n),(6,dI a),(7,dI 0),(8,dI l)]) (λd2=>[bI n d2]) 1 (λs:Nat×Array Int=>s.2.size=n/\s.1<=(l-1) / 2+1/\heapBuild ltInt l a s.1 s.2=heapBuild ltInt l a ((l-1) / 2+1) d) (λs=>[(0,lf n),(6,dI a),(7,dI 0),(8,dI l),(9,dI ((s.1:Int)-1))]) (λs=>[bI n s.2]) (λs=>s.1) ((l-1) / 2+1,d) rfl ?_ rfl ?_ rfl ⟨q,bh _,rfl⟩ ?_ ?_
 .simp;omega
 .simp[cE]
 .rintro out ⟨k,d1⟩ ⟨e,hk,c⟩;simp only at e hk c;cases k with
  |zero =>
   refine aW [(19,af)] rfl (by simp) (AK.leaveD rfl rfl ?_);exact out d1 ⟨e,c⟩ rfl (by simp) rfl (by simp[cE])
  |succ k =>
   refine aW [(19,ab)] rfl (by simp only[au,a9];omega) ?_;refine AK.cQ (Ez n d1 (lo:=k) (hi:=l) (first:=a) e p (by omega) i (by omega) rfl rfl) [0] rfl ?_;refine dk rfl ?_ (AK.aQ (k,siftDown ltInt l a k d1) rfl ?_ ?_ ?_ ?_)
   .simp only[au,bE];omega
   .simp only[au.cat,au,aF,aD];omega
   .simp[cE]
   .exact⟨by rw[Aq _ _ _ _ _ (bh _)];exact e,by grind,c⟩
   .simp
 rintro h ⟨g,o⟩;refine dk rfl (by simp only[au,bE];omega) ?_;have f:heapSort ltInt d a (a+l)=heapPop ltInt a l h:=by unfold heapSort;grind
 rw[f];refine AK.cJ 1 (λs:Nat×Array Int=>s.2.size=n/\s.1<=l/\heapPop ltInt a s.1 s.2=heapPop ltInt a l h) (λs=>[(0,lf n),(6,dI a),(7,dI 0),(8,dI l),(10,dI ((s.1:Int)-1))]) (λs=>[bI n s.2]) (λs=>s.1) (l,h) rfl ?_ rfl ?_ rfl ⟨g,bh _,rfl⟩ ?_
 .simp
 .simp[cE]
 rintro⟨k,d1⟩ ⟨e,hk,c⟩;simp only at e hk c;cases k with
 |zero =>
  rw[<-c];refine aW [(30,af)] rfl (by simp) (AK.leaveD rfl rfl ?_);exact cz.qb [0] rfl ak rfl rfl rfl iI
 |succ k =>
  have j:((a:Int)+(((k+1:Nat):Int)-1)).toNat=a+k:=by omega
  refine bO [(30,ab),(1000011,ab)] rfl ?_ ?_
  .simp only[au,bF,b9,j,bE,a9,aF,aD];and_intros<;>omega
  refine AK.norm [bI n (swp d1 a (a+k))] rfl ?_ ?_
  .simp only[au.cat,au,bF,b9,j,aD,aF];exact iB e (by omega) (by omega) (λ_ _=>rfl)
  refine dk rfl ak ?_;refine AK.cQ (Ez n (swp d1 a (a+k)) (lo:=0) (hi:=k) (first:=a) (by grind[size_swp]) (by omega) (by omega) i rfl (by omega) rfl) [0] rfl ?_;refine dk rfl ?_ (AK.aQ (k,siftDown ltInt k a 0 (swp d1 a (a+k))) rfl ?_ ?_ ?_ ?_)
  .simp only[au,bE];omega
  .simp only[au.cat,au,aF,aD];omega
  .simp[cE]
  .exact⟨by rw[Aq _ _ _ _ _ (bh _),size_swp];exact e,by grind,c⟩
  .simp
end
section
open Go.Sort (bitsLen)
variable {X:Cx ag}
def zr:List UInt8:=(bc 256).map λi=>UInt8.ofNat (bitsLen i)
def k7{x k:Nat}(h:x<2 ^ k):bitsLen x<=k:=by
 unfold bitsLen;split
 .omega
 .rename_i a;have:=(Nat.log2_lt a).2 h;omega
theorem QK{x:Nat}(h:x<256):(jl zr x).toNat=bitsLen x:=by unfold jl zr;rw[b9,aj,nA,List.getElem?_range h];have:=k7 (x:=x) (k:=8) h;grind[UInt8.toNat_ofNat']
def vG{k:Nat}(h:2 ^ k<=n):bitsLen n=k+bitsLen (n / 2 ^ k):=by
 have b:0<2 ^ k:=Nat.two_pow_pos k;have e:0<n / 2 ^ k:=Nat.div_pos h b;unfold bitsLen;rw[aY (by omega),aY (by omega)];have c:Nat.log2 n=k+Nat.log2 (n / 2 ^ k):=by
  rw[Nat.log2_eq_iff (by omega)];have a:=Nat.log2_self_le (n:=n / 2 ^ k) (by omega);have d:=Nat.lt_log2_self (n:=n / 2 ^ k);constructor
  .rw[Nat.pow_add,Nat.mul_comm];exact iN (eP _ a) (Nat.div_mul_le_self n _)
  .rw[show k+Nat.log2 (n / 2 ^ k)+1=k+(Nat.log2 (n / 2 ^ k)+1) by omega,Nat.pow_add];grind[Nat.div_lt_iff_lt_mul]
 omega
set_option maxRecDepth 100000 in
def NB(n:Nat)(g:n<=4000000):Ev X 195 [dQ n] [] (dI (bitsLen n)) []:=by
 refine Ev.bQ Tryz.func195 rfl λh=>?_;have fin:∀{T:List UInt8} {x:Nat},T=zr->x<256->(jl T (x:Int)).toNat=bitsLen x:=λhT hx=>by grind[QK]
 have fl:∀{T:List UInt8},T=zr->T.length=256:=λhT=>by rw[hT];rfl
 by_cases f:65536<=n
 .have b:((n:Int).toNat / 2 ^ Int.toNat 16)=n / 65536:=by simp
  have e:bitsLen n=16+bitsLen (n / 65536):=vG (n:=n) (k:=16) f;have c:=k7 (x:=n / 65536) (k:=8) (by grind);refine bO [(4,af),(8,ab),(14,af)] rfl ?_ (AK.bC rfl ?_)
  .generalize hT:(ByteArray.data _).toList=T;have a:T=zr:=by rw[<-hT];decide +kernel
   simp only[au,b,fin a (show n / 65536<256 by omega),fl a,bE,a9,bR];and_intros<;>omega
  .generalize hT:(ByteArray.data _).toList=T;have a:T=zr:=by rw[<-hT];decide +kernel
   simp only[au,au.cat,b,fin a (show n / 65536<256 by omega),aF,aD];omega
 by_cases d:256<=n
 .have b:((n:Int).toNat / 2 ^ Int.toNat 8)=n / 256:=by simp
  have e:bitsLen n=8+bitsLen (n / 256):=vG (n:=n) (k:=8) d;have c:=k7 (x:=n / 256) (k:=8) (by grind);refine bO [(4,af),(8,af),(14,ab)] rfl ?_ (AK.bC rfl ?_)
  .generalize hT:(ByteArray.data _).toList=T;have a:T=zr:=by rw[<-hT];decide +kernel
   simp only[au,b,fin a (show n / 256<256 by omega),fl a,bE,a9,bR];and_intros<;>omega
  .generalize hT:(ByteArray.data _).toList=T;have a:T=zr:=by rw[<-hT];decide +kernel
   simp only[au,au.cat,b,fin a (show n / 256<256 by omega),aF,aD];omega
 .have c:=k7 (x:=n) (k:=8) (by grind);refine bO [(4,af),(8,af),(14,af)] rfl ?_ (AK.bC rfl ?_)
  .generalize hT:(ByteArray.data _).toList=T;have a:T=zr:=by rw[<-hT];decide +kernel
   simp only[au,fin a (show n<256 by omega),fl a,bE,a9,bR];and_intros<;>omega
  .generalize hT:(ByteArray.data _).toList=T;have a:T=zr:=by rw[<-hT];decide +kernel
   simp only[au,au.cat,fin a (show n<256 by omega),aF,aD];omega
def Nw(n:Nat)(a:n<=4000000):Ev X 147 [dQ n] [] (dI (bitsLen n)) []:=by refine Ev.bQ Tryz.func147 rfl λb=>?_;refine dk rfl ak ?_;refine AK.HI ?_;refine dk rfl ak ?_;refine AK.cQ (NB n a) [] rfl ?_;exact dk rfl ak (AK.bC rfl)
end
section
open Go.Sort (swp bitsLen xorNextN xorNextN_lt xorNext xorNext_toNat breakStep breakPatterns)
variable {X:Cx ag}
abbrev bQ(r:Nat):bg:=.cells 283 [.c (.int .u64 r)]
def QL(r:Nat):Ev X 215 [.e (.one (.ptr 0 0))] [bQ r] (dQ (xorNextN r)) [bQ (xorNextN r)]:=by
 refine Ev.bQ Tryz.func215 rfl λd=>?_;have a:(2:Nat) ^ Int.toNat 13=8192:=by decide
 have c:(2:Nat) ^ Int.toNat 7=128:=by decide
 have b:(2:Nat) ^ Int.toNat 17=131072:=by decide
 refine dk rfl ?_ ?_
 .simp only[au];omega
 refine AK.norm [bQ (xorNextN r)] rfl ?_ (AK.cX [0] rfl ?_ rfl rfl rfl iI)
 .simp only[au,au.cat,xorNextN,b9,a,c,b,aD]
 .simp only[au,au.cat,xorNextN,b9,a,c,b]
theorem QM(n:Nat)(a:n<=4000000):Ev X 214 [dI n] [] (dQ ((1 <<< bitsLen n:Nat):Int)) []:=by
 refine Ev.bQ Tryz.func214 rfl λc=>?_;have l:=k7 (x:=n) (k:=22) (by grind);refine dk rfl (by simp only[au,bE];and_intros<;>omega) ?_;refine AK.cQ (Nw n a) [] rfl ?_;refine dk rfl ?_ (AK.bC rfl ?_)
 .simp only[au];omega
 .have b:2 ^ bitsLen n<=2 ^ 22:=Nat.pow_le_pow_right (by omega) l;simp only[au,au.cat,Nat.shiftLeft_eq,b9];grind
def EA{L:Nat}(h:0<L):1 <<< bitsLen L<=2*L:=by rw[Nat.shiftLeft_eq,Nat.one_mul];unfold bitsLen;rw[aY (by omega),Nat.pow_succ];grind[Nat.log2_self_le]
def NC(L:Nat):1<=1 <<< bitsLen L:=by rw[Nat.shiftLeft_eq,Nat.one_mul];grind
def Vd(a L M:Nat):Nat->Nat->UInt64×Array Int->UInt64×Array Int
 |0,_,st=>st
 |k+1,idx,st=>Vd a L M k (idx+1) (breakStep a L M st idx)
def u4{d:Array Int}{a L:Nat}(h:8<=L):breakPatterns d a (a+L)=(Vd a L (1 <<< bitsLen L) 3 (a+L / 4*2-1) (UInt64.ofNat L,d)).2:=by unfold breakPatterns;simp only[AE];rw[bo h];rfl
def Cf{a L M idx:Nat}{r:UInt64}{d:Array Int}:breakStep a L M (r,d) idx=(xorNext r,swp d idx (a+if(xorNextN r.toNat &&& (M-1))≥L then(xorNextN r.toNat &&& (M-1))-L else(xorNextN r.toNat &&& (M-1)))):=by unfold breakStep;simp only[xorNext_toNat]
abbrev aaD(n a L M:Nat)(k:Nat):Fr:=[(0,lf n),(1,dI a),(6,dI L),(7,.e (.one (.ptr 1 0))),(8,dQ M),(9,dI ((a+L / 4*2-1+(3-k):Nat):Int))]
def Nu(n:Nat)(d:Array Int)(a b:Nat)(u:d.size=n)(v:a<=b)(z:b<=n)(w:n<=4000000):
  Ev X 187 [lf n,dI a,dI b] [bI n d] (.fD []) [bI n (breakPatterns d a b)]:=by
 refine Ev.bQ Tryz.func187 rfl λy=>?_;obtain⟨L,rfl⟩:∃L,b=a+L:=⟨b-a,by omega⟩
 by_cases t:8<=L
 .rw[u4 t];have A:=EA (L:=L) (by omega);have p:=NC L;have l:(UInt64.ofNat L).toNat=L:=by grind[UInt64.toNat_ofNat']
  refine bO [(15,ab)] rfl ?_ ?_
  .simp only[au,bE,a9,aF,aD];and_intros<;>omega
  have key:∀x:Int,x=(L:Int)->Ev X 214 [dI x] [] (dQ ((1 <<< bitsLen L:Nat):Int)) []:=by grind[QM]
  refine AK.cQ (key _ (by omega)) [] rfl ?_;refine dk rfl ?_ ?_
  .simp only[au,bE,a9,aF,aD];and_intros<;>omega
  generalize q:1 <<< bitsLen L=M at *;refine AK.cJ 2 (λs:Nat×UInt64×Array Int=>s.2.2.size=n/\s.1<=3/\(Vd a L M s.1 (a+L / 4*2-1+(3-s.1)) s.2).2=(Vd a L M 3 (a+L / 4*2-1) (UInt64.ofNat L,d)).2) (λs=>aaD n a L M s.1) (λs=>[bI n s.2.2,bQ s.2.1.toNat]) (λs=>s.1) (3,UInt64.ofNat L,d) rfl ?_ rfl ?_ rfl ⟨u,bh _,rfl⟩ ?_
  .simp only[au.cat,au,aF,aD];and_intros<;>omega
  .simp only[au.cat,au,cE,l,aF,aD];grind
  rintro⟨k,r,d1⟩ ⟨m,hk,c⟩;simp only at m hk c;cases k with
  |zero =>
   rw[<-c];refine bO [(33,af)] rfl ?_ (AK.leaveD rfl rfl ?_)
   .simp only[au,bE,bR,aF,aD];and_intros<;>omega
   exact cz.qb [0] rfl ak rfl rfl rfl iI
  |succ k =>
   have B:xorNextN r.toNat<18446744073709551616:=xorNextN_lt _ (UInt64.toNat_lt r);have o:xorNextN r.toNat &&& (M-1)<=M-1:=Nat.and_le_right;have i:((M:Int)-1).toNat=M-1:=by omega
   refine bO [(33,ab)] rfl ?_ ?_
   .simp only[au,bE,a9,aF,aD];and_intros<;>omega
   refine AK.cQ (QL r.toNat) [1] rfl ?_;have f:=Cf (a:=a) (L:=L) (M:=M) (idx:=a+L / 4*2-1+(3-(k+1))) (r:=r) (d:=d1);generalize j:xorNextN r.toNat &&& (M-1)=O at *;by_cases g:L<=O
   .rw[bo g]at f;have h:((a:Int)+((O:Int)-(L:Int))).toNat=a+(O-L):=by omega
    refine bO [(43,ab)] rfl ?_ (AK.aQ (k,xorNext r,swp d1 (a+L / 4*2-1+(3-(k+1))) (a+(O-L))) rfl ?_ ?_ ?_ ?_)
    .simp only[au,bF,b9,i,j,h,bE,a9,aF,aD];and_intros<;>omega
    .simp only[au.cat,au,aF,aD];omega
    .simp only[au.cat,au,bF,b9,i,j,h,xorNext_toNat,aD,aF];exact iB m (by omega) (by omega) (λ_ _=>rfl)
    .refine⟨by grind[size_swp],by grind,?_⟩;rw[<-c,Vd,f,show a+L / 4*2-1+(3-(k+1))+1=a+L / 4*2-1+(3-k) by omega]
    .simp
   .rw[aY g]at f;have h:((a:Int)+(O:Int)).toNat=a+O:=by omega
    refine bO [(43,af)] rfl ?_ (AK.aQ (k,xorNext r,swp d1 (a+L / 4*2-1+(3-(k+1))) (a+O)) rfl ?_ ?_ ?_ ?_)
    .simp only[au,bF,b9,i,j,h,bE,bR,aF,aD];and_intros<;>omega
    .simp only[au.cat,au,aF,aD];omega
    .simp only[au.cat,au,bF,b9,i,j,h,xorNext_toNat,aD,aF];exact iB m (by omega) (by omega) (λ_ _=>rfl)
    .refine⟨by grind[size_swp],by grind,?_⟩;rw[<-c,Vd,f,show a+L / 4*2-1+(3-(k+1))+1=a+L / 4*2-1+(3-k) by omega]
    .simp
 .have e:breakPatterns d a (a+L)=d:=by unfold breakPatterns;grind
  rw[e];refine bO [(15,af)] rfl ?_ ?_
  .simp only[au,bE,bR,aF,aD];and_intros<;>omega
  exact cz.qb [0] rfl ak rfl rfl rfl iI
end
end R1
end Go.AM
