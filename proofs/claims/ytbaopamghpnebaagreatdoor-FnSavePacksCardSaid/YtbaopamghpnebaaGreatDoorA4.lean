/- Part 4. No condition. -/
import Derived.Test.YtbaopamghpnebaaGreatDoorA3
import Derived.Conc.WgGenN2
import Derived.Conc.WgGenN3
import Derived.Conc.LeavingOf
import Derived.Below
import Derived.ProofKit
import Derived.OpenShut
import Derived.OpenVars
import Derived.LaidMore
import Derived.Lay
import Derived.SevenTiedAt
import Derived.Lib.Bytealg
import Derived.Conc.DeferLaws
import Derived.Sort.AssemblyPlain
import Derived.Sort.LotD5
set_option linter.all false
set_option maxHeartbeats 8000000
open Go.Proofs
open Go renaming Value → ah, Program → ar, TypeId → aj, Oper → au, Operand → ak, undef → ai, execOp → aw, World → aA, Goroutine → av, stepG → aH, Frame → aR, FuncId → aJ
open Option renaming some → aa, none → ae
open Bool renaming true → ab, false → af
open Go.World renaming cell? → aV
open List renaming getD_eq_getElem?_getD → aq, range → bg
open Go.Sem renaming events_bind → aM
open Go.Result renaming evThen_ok → aO
open Go.Instr renaming sureAddr → bo
open Nat renaming beq → aB, ble → bu
open Go.Op renaming equalIn → aY, bytesLess → bk
open Go.Proofs.Tryz renaming prog → ag
open Go.Conc renaming stepG_seq → aD, stepG_region_end → aC
namespace Go.AM
section
open Go.Conc Go.RowKit Go.Conc.Lib Go.ConcR.Gen
open Go.ConcN (WgLive)
open Go.ConcR (KK WgAt stA smA rd wr mk DC0)
variable {L:WgLink}
section
variable (P:ar)(R:aA->aA->Prop)(L:WgLink)(Wg:Nat)(a:av)
def YL(g:av)(_:aA):Prop:=g.status=.running/\∃g',(∀w,aH P ab g w=.go g' w #[mk .enable])/\∀w1,WgLive L.tWg Wg w1->∃m,Goes P ab R DC0 (λg _=>g=a) m g' w1
def GRd(g:av)(_:aA):Prop:=g.status=.running/\∃g' ad,ad.block=Wg/\(∀w,aH P ab g w=.go g' w #[mk (.read ad)])/\∀w1,WgLive L.tWg Wg w1->∃m,Goes P ab R DC0 (YL P R L Wg a) m g' w1
def GA1(g:av)(w:aA):Prop:=g.status=.running/\∀v:Nat,v<2147483647->WgAt L.tWg Wg w (v*KK) 0 ->
 ∃g',aH P ab g w=.go g' (w.setCell (stA Wg) (.int .u64 ((v+1)*KK))) #[rd (stA Wg),wr (stA Wg)]/\∃m,Goes P ab R DC0 (λg w=>GRd P R L Wg a g w∨YL P R L Wg a g w) m g' (w.setCell (stA Wg) (.int .u64 ((v+1)*KK)))
def GKd(g:av)(_:aA):Prop:=g.status=.running/\∃g',(∀w,aH P ab g w=.go g' w #[mk .disable])/\∀w1,WgLive L.tWg Wg w1->∃m,Goes P ab R DC0 (GA1 P R L Wg a) m g' w1
end
set_option maxRecDepth 100000 in
def Of{P:ar}(H:WgLib P L){R:aA->aA->Prop}{Wg:Nat}(c:∀{w w1},WgLive L.tWg Wg w->R w w1->WgLive L.tWg Wg w1){b₀:aR}{a₀:Act}{ops₀:Array au}{i₀:Nat}{rest₀:List Nat}{k₀:List Item}{cs:List aR}(w:aA)(b:WgLive L.tWg Wg w):
  Goes P ab R DC0 (GKd P R L Wg (G (b₀.at (a₀.put ((ops₀[i₀]?).bind (·.dst)) (.tuple #[])) (.inRegion ops₀ rest₀::k₀)) cs)) 12
   (G ((base L.add).at ⟨#[.pointer (aa ⟨Wg,0,ae⟩),.int .i64 1,ai,ai,ai,ai,ai,ai,ai,ai,ai,ai,ai,ai,ai,ai,ai,ai,ai,ai,ai,ai,ai,ai,ai,ai,ai,ai,ai,ai,ai,ai,ai,ai,ai,ai,ai,ai,ai,ai,ai,ai,ai,ai,ai,ai,ai,ai,ai,ai,ai,ai,ai,ai,ai,ai,ai,ai,ai,ai,ai,ai,ai,ai,ai,ai,ai,ai,ai,ai,ai,ai,ai,ai,ai,ai,ai,ai,ai,ai,ai,ai,ai,ai,ai,ai,ai,ai,ai,ai,ai,ai,ai,ai,ai,ai,ai,ai,ai,ai,ai,ai,ai,ai,ai,ai,ai,ai,ai,ai,ai,ai,ai,ai,ai,ai,ai],[]⟩ [.code (body_add L)]) (b₀.at a₀ (.inRegion ops₀ (i₀::rest₀)::k₀)::cs)) w:=by
 lib_facts
 simp only[body_add,addFn,im]
 repeat (u_c aD c b)
 u_cond ab c b
 repeat (u_c aD c b)
 u_reg c b
 u_op c b
 u_op c b
 u_c aC c b
 repeat (u_c aD c b)
 u_cond af c b
 u_c stepG_skip c b
 repeat (u_c aD c b)
 u_reg c b
 refine Goes.stop (λm h=>?_);refine⟨rfl,_,λw=>stepG_mark0 .disable (by simp) rfl rfl (by k_ne) rfl H.f_disable (x_disable_n L) (x_disable_b L) (x_disable_x L) (x_disable_f L),λw b=>?_⟩;clear h;refine⟨40,?_⟩
 walk_nrm
 u_c aC c b
 repeat (u_c aD c b)
 u_reg c b
 u_defer c b
 u_c aC c b
 repeat (u_c aD c b)
 u_reg c b
 u_op c b
 u_c aC c b
 repeat (u_c aD c b)
 u_reg c b
 u_bub c b
 u_c aC c b
 repeat (u_c aD c b)
 u_cond af c b
 u_c stepG_skip c b
 repeat (u_c aD c b)
 u_reg c b
 u_op c b
 u_op c b
 u_op c b
 u_op c b
 u_op c b
 u_op c b
 u_call H.f_uAdd (nm_uAdd L) uAddFn c b
 repeat (u_c aD c b)
 u_reg c b
 u_op c b
 u_c aC c b
 repeat (u_c aD c b)
 u_reg c b
 u_op c b
 u_op c b
 u_op c b
 u_op c b
 refine Goes.stop (λf e=>?_);replace b:=c b e;clear e;refine⟨rfl,λv u j=>?_⟩;have k:KK=4294967296:=rfl;have p:IntKind.u64.wrap ((v:Int)*KK+4294967296)=((v:Int)+1)*KK:=by rw[IntKind.wrap_u64];simp only[k];omega
 refine⟨_,(stepG_add_atomic rfl rfl (by k_ne) rfl H.f_addU64 (x_addU64_n L) (x_addU64_b L) (x_addU64_x L) .u64 (x_addU64_f L) rfl rfl j.cellSt (j.thaw 0)).trans (by rw[p];rfl),110,?_⟩;replace b:WgLive L.tWg Wg (f.setCell (stA Wg) (.int .u64 (((v:Int)+1)*KK))):=⟨_,_,j.setSt _⟩
 clear j
 walk_nrm
 u_op c b
 u_c aC c b
 u_c stepG_ret' c b
 u_leave1 H.f_uAdd c b
 u_op c b
 u_c aC c b
 have s:bits .and .u64 (((v:Int)+1)*4294967296) 2147483648=0:=by have:=Go.ConcN.st_flag (v+1) 0 (by omega) (by omega);grind
 have t:bits .and .u64 (((v:Int)+1)*4294967296) 2147483647=0:=by have:=Go.ConcN.st_waiters (v+1) 0 (by omega) (by omega);grind
 have r:((v:Int)+1+2147483648) % 4294967296-2147483648=(v:Int)+1:=by omega
 have x:¬((v:Int)+1<0):=by omega
 have q:(0:Int)<(v:Int)+1:=by omega
 repeat (u_c aD c b)
 u_reg c b
 u_op c b
 u_op c b
 u_op c b
 u_op c b
 u_skip c b
 u_skip c b
 u_op c b
 u_c aC c b
 repeat (u_c aD c b)
 u_cond af c b
 u_c stepG_skip c b
 repeat (u_c aD c b)
 u_reg c b
 u_op c b
 u_op c b
 u_op c b
 u_op c b
 u_c aC c b
 repeat (u_c aD c b)
 u_reg c b
 u_op c b
 u_op c b
 u_op c b
 u_op c b
 u_c aC c b
 by_cases n:(v:Int)+1=1
 .repeat (u_c aD c b)
  u_reg c b
  u_op c b
  u_op c b
  u_op c b
  u_op c b
  u_op c b
  u_op c b
  u_op c b
  u_op c b
  u_op c b
  u_op c b
  u_c aC c b
  repeat (u_c aD c b)
  u_cond ab c b
  repeat (u_c aD c b)
  u_reg c b
  u_op c b
  u_op c b
  u_op c b
  u_conv H.underlying_tPU32 H.room_tU32 (Go.ConcN.Gen.WgLive.cell1 b).choose_spec c b
  refine Goes.stop (λl g=>.inl ?_);clear g;refine⟨rfl,_,⟨Wg,1,ae⟩,rfl,λw=>stepG_markAt .read (by simp) rfl rfl (by k_ne) rfl H.f_raceRead (x_raceRead_n L) (x_raceRead_b L) (x_raceRead_x L) (x_raceRead_f L) (ad:=⟨Wg,1,ae⟩) (by simp[Act.eval]),λw b=>⟨50,?_⟩⟩
  walk_nrm
  u_c aC c b
  repeat (u_c aD c b)
  u_reg c b
  u_op c b
  u_op c b
  u_c aC c b
  repeat (u_c aD c b)
  u_cond af c b
  u_c stepG_skip c b
  repeat (u_c aD c b)
  u_reg c b
  u_op c b
  u_op c b
  u_op c b
  u_skip c b
  u_skip c b
  u_op c b
  u_op c b
  u_skip c b
  u_skip c b
  u_skip c b
  u_skip c b
  u_op c b
  u_c aC c b
  repeat (u_c aD c b)
  u_cond af c b
  u_c stepG_skip c b
  repeat (u_c aD c b)
  u_reg c b
  u_op c b
  u_op c b
  u_op c b
  u_skip c b
  u_skip c b
  u_op c b
  u_c aC c b
  repeat (u_c aD c b)
  u_cond ab c b
  u_c stepG_ret' c b
  refine Goes.stop (λi d=>?_);clear d;refine⟨rfl,_,λw=>stepG_unwind_entry (v:=.tuple #[]) (evs:=#[mk .enable]) rfl H.f_enable (x_enable_n L) (x_enable_b L) (x_enable_x L) (x_enable_f L) (by simp[Extern.Race.none_]) (by simp[mk]) (by simp[mk]),λw b=>⟨1,?_⟩⟩
  u_leave0 H.f_add c b
  grind[Goes.stop]
 .have o:((v:Int)+1==1)=af:=by grind
  repeat (u_c aD c b)
  u_reg c b
  u_op c b
  u_op c b
  u_op c b
  u_op c b
  u_op c b
  u_op c b
  u_op c b
  u_op c b
  u_op c b
  u_op c b
  u_c aC c b
  repeat (u_c aD c b)
  u_cond af c b
  u_c stepG_skip c b
  repeat (u_c aD c b)
  u_reg c b
  u_op c b
  u_op c b
  u_c aC c b
  repeat (u_c aD c b)
  u_cond af c b
  u_c stepG_skip c b
  repeat (u_c aD c b)
  u_reg c b
  u_op c b
  u_op c b
  u_op c b
  u_skip c b
  u_skip c b
  u_op c b
  u_op c b
  u_skip c b
  u_skip c b
  u_skip c b
  u_skip c b
  u_op c b
  u_c aC c b
  repeat (u_c aD c b)
  u_cond af c b
  u_c stepG_skip c b
  repeat (u_c aD c b)
  u_reg c b
  u_op c b
  u_op c b
  u_op c b
  u_skip c b
  u_skip c b
  u_op c b
  u_c aC c b
  repeat (u_c aD c b)
  u_cond ab c b
  u_c stepG_ret' c b
  refine Goes.stop (λi d=>.inr ?_);clear d;refine⟨rfl,_,λw=>stepG_unwind_entry (v:=.tuple #[]) (evs:=#[mk .enable]) rfl H.f_enable (x_enable_n L) (x_enable_b L) (x_enable_x L) (x_enable_f L) (by simp[Extern.Race.none_]) (by simp[mk]) (by simp[mk]),λw b=>⟨1,?_⟩⟩
  u_leave0 H.f_add c b
  grind[Goes.stop]
end
section
open Go.Conc Go.RowKit Go.Conc.Lib Go.ConcR.Gen
open Go.ConcN (WgLive)
open Go.ConcR (KK WgAt stA smA rd wr mk DC0)
section
variable (P:ar)(R:aA->aA->Prop)(L:WgLink)(Wg:Nat)(a:av)(b:av->Prop)
def U9(g:av)(_:aA):Prop:=g.status=.running/\∃g',(∀w,aH P ab g w=.go g' w #[mk (.acquire (stA Wg))])/\∀w1,WgLive L.tWg Wg w1->∃m,Goes P ab R DC0 (λg _=>g=a) m g' w1
def YM(g:av)(_:aA):Prop:=g.status=.running/\∃g',(∀w,aH P ab g w=.go g' w #[mk .enable])/\∀w1,WgLive L.tWg Wg w1->∃m,Goes P ab R DC0 (U9 P R L Wg a) m g' w1
def HW4(g:av)(w:aA):Prop:=g.status=.running/\(WgAt L.tWg Wg w 0 0->∃g',aH P ab g w=.go g' w #[rd (stA Wg)]/\∃m,Goes P ab R DC0 (YM P R L Wg a) m g' w)
def HW3(g:av)(w:aA):Prop:=g.status=.running/\g.offers=ae/\((∃st,WgAt L.tWg Wg w st 0)->aH P ab g w=.go {g with status:=.blocked} w #[]) /\
 (WgAt L.tWg Wg w 0 1->∃g',aH P ab g w=.go g' (w.setCell (smA Wg) (.int .u32 0)) (semEvents (smA Wg))/\∃m,Goes P ab R DC0 (HW4 P R L Wg a) m g' (w.setCell (smA Wg) (.int .u32 0)))
def HWr(g:av)(_:aA):Prop:=g.status=.running/\∃g' ad,ad.block=Wg/\(∀w,aH P ab g w=.go g' w #[mk (.write ad)])/\∀w1,WgLive L.tWg Wg w1->∃m,Goes P ab R DC0 (HW3 P R L Wg a) m g' w1
def HW2(vs:Nat)(g:av)(w:aA):Prop:=g.status=.running/\∀v:Nat,v<2147483648->WgAt L.tWg Wg w (v*KK) 0 ->
 (v=vs->∃g',aH P ab g w=.go g' (w.setCell (stA Wg) (.int .u64 (v*KK+1))) #[rd (stA Wg),wr (stA Wg)]/\∃m,Goes P ab R DC0 (HWr P R L Wg a) m g' (w.setCell (stA Wg) (.int .u64 (v*KK+1)))) /\
 (v≠vs->∃g',aH P ab g w=.go g' w #[rd (stA Wg)]/\∃m,Goes P ab R DC0 (λg _=>b g) m g' w)
def HW1(g:av)(w:aA):Prop:=g.status=.running/\∀v:Nat,v<2147483648->WgAt L.tWg Wg w (v*KK) 0 ->
 ∃g',aH P ab g w=.go g' w #[rd (stA Wg)]/\(v=0->∃m,Goes P ab R DC0 (YM P R L Wg a) m g' w)/\(v≠0->∃m,Goes P ab R DC0 (HW2 P R L Wg a b v) m g' w)
def HKd(g:av)(_:aA):Prop:=g.status=.running/\∃g',(∀w,aH P ab g w=.go g' w #[mk .disable])/\∀w1,WgLive L.tWg Wg w1->∃m,Goes P ab R DC0 (λg _=>b g) m g' w1
end
def R2(L:WgLink)(Wg:Nat)(c:aR)(cs:List aR)(g:av):Prop :=
 ∃T:Array ah,g=G ((base L.wait).at ⟨T,[]⟩ [.code (L7 L),.inLoop (L7 L),.inBlock 0]) (c::cs)/\T.size=84/\T[0]?=aa (.pointer (aa ⟨Wg,0,ae⟩))
set_option maxRecDepth 100000 in
def Ei{L:WgLink}{P:ar}(H:WgLib P L){R:aA->aA->Prop}{Wg:Nat}(b:∀{w w1},WgLive L.tWg Wg w->R w w1->WgLive L.tWg Wg w1){c:aR}{cs:List aR}(w:aA)(a:WgLive L.tWg Wg w):
  Goes P ab R DC0 (HKd P R L Wg (R2 L Wg c cs)) 6 (G ((base L.wait).at ⟨#[.pointer (aa ⟨Wg,0,ae⟩),ai,ai,ai,ai,ai,ai,ai,ai,ai,ai,ai,ai,ai,ai,ai,ai,ai,ai,ai,ai,ai,ai,ai,ai,ai,ai,ai,ai,ai,ai,ai,ai,ai,ai,ai,ai,ai,ai,ai,ai,ai,ai,ai,ai,ai,ai,ai,ai,ai,ai,ai,ai,ai,ai,ai,ai,ai,ai,ai,ai,ai,ai,ai,ai,ai,ai,ai,ai,ai,ai,ai,ai,ai,ai,ai,ai,ai,ai,ai,ai,ai,ai,ai],[]⟩ [.code (body_wait L)]) (c::cs)) w:=by
 lib_facts
 unfold R2;simp only[L7,body_wait,waitFn,im]
 repeat (u_c aD b a)
 u_cond ab b a
 repeat (u_c aD b a)
 u_reg b a
 refine Goes.stop (λe d=>?_);clear d;refine⟨rfl,_,λw=>stepG_mark0 .disable (by simp) rfl rfl (by k_ne) rfl H.f_disable (x_disable_n L) (x_disable_b L) (x_disable_x L) (x_disable_f L),λw a=>⟨6,?_⟩⟩
 walk_nrm
 u_c aC b a
 repeat (u_c aD b a)
 u_c stepG_block b a
 u_c stepG_loop b a
 exact Goes.stop λ_ _=>⟨_,rfl,rfl,rfl⟩
end
section
open Go.Conc Go.RowKit Go.Conc.Lib Go.ConcR.Gen
open Go.ConcN (WgLive)
open Go.ConcN.Gen
open Go.ConcR (KK WgAt stA smA rd wr mk DC0)
set_option maxRecDepth 100000 in
def Eh{L:WgLink}{P:ar}(H:WgLib P L){R:aA->aA->Prop}{Wg:Nat}(b:∀{w w1},WgLive L.tWg Wg w->R w w1->WgLive L.tWg Wg w1){b₀:aR}{a₀:Act}{ops₀:Array au}{i₀:Nat}{rest₀:List Nat}{k₀:List Item}{cs:List aR}(g:av)(hg:R2 L Wg (b₀.at a₀ (.inRegion ops₀ (i₀::rest₀)::k₀)) cs g)(w:aA)(a:WgLive L.tWg Wg w):
  ∃m,Goes P ab R DC0 (HW1 P R L Wg (G (b₀.at (a₀.put ((ops₀[i₀]?).bind (·.dst)) (.tuple #[])) (.inRegion ops₀ rest₀::k₀)) cs) (R2 L Wg (b₀.at a₀ (.inRegion ops₀ (i₀::rest₀)::k₀)) cs)) m g w:=by
 lib_facts
 obtain⟨T,rfl,p,s⟩:=hg;obtain⟨v0,v1,v2,v3,v4,v5,v6,v7,v8,v9,v10,v11,v12,v13,E,v15,v16,v17,v18,v19,v20,v21,v22,V,v24,v25,X,v27,B,v29,v30,v31,O,z,M,v35,v36,v37,v38,v39,v40,v41,Z,v43,D,W,v46,U,y,v49,v50,v51,v52,v53,J,C,v56,Y,u,x,F,v61,v62,v63,v64,v65,v66,v67,A,N,v70,v71,v72,v73,v74,v75,v76,v77,v78,v79,Q,K,I,v83,rfl⟩:=array84 T p;simp only[ik,la,dn]at s;subst s;refine⟨30,?_⟩;unfold R2;simp only[L7,body_wait,waitFn,im]
 u_c stepG_block b a
 repeat (u_c aD b a)
 u_reg b a
 u_op b a
 u_op b a
 u_op b a
 u_call H.f_uLoad (nm_uLoad L) uLoadFn b a
 repeat (u_c aD b a)
 u_reg b a
 u_op b a
 u_c aC b a
 repeat (u_c aD b a)
 u_reg b a
 u_op b a
 u_op b a
 u_op b a
 refine Goes.stop (λq j=>?_);replace a:=b a j;clear j;refine⟨rfl,λv hv f=>?_⟩;rcases mT v with rfl|hvp
 .replace f:WgAt L.tWg Wg q 0 0:=by grind
  refine⟨_,stepG_load_atomic (v:=0) rfl rfl (by k_ne) rfl H.f_loadU64 (x_loadU64_n L) (x_loadU64_b L) (x_loadU64_x L) .u64 (x_loadU64_f L) rfl f.cellSt,λ_=>⟨80,?_⟩,λh=>absurd rfl h⟩;clear f
  walk_nrm
  u_op b a
  u_c aC b a
  u_c stepG_ret' b a
  u_leave1 H.f_uLoad b a
  u_op b a
  u_c aC b a
  repeat (u_c aD b a)
  u_reg b a
  u_op b a
  u_op b a
  u_op b a
  u_op b a
  u_c aC b a
  repeat (u_c aD b a)
  u_reg b a
  u_op b a
  u_op b a
  u_op b a
  u_op b a
  u_c aC b a
  repeat (u_c aD b a)
  u_reg b a
  u_op b a
  u_op b a
  u_c aC b a
  repeat (u_c aD b a)
  u_cond ab b a
  repeat (u_c aD b a)
  u_cond ab b a
  repeat (u_c aD b a)
  u_reg b a
  refine Goes.stop (λd c=>?_);clear c;refine⟨rfl,_,λw=>stepG_mark0 .enable (by simp) rfl rfl (by k_ne) rfl H.f_enable (x_enable_n L) (x_enable_b L) (x_enable_x L) (x_enable_f L),λw a=>⟨20,?_⟩⟩
  walk_nrm
  u_c aC b a
  repeat (u_c aD b a)
  u_reg b a
  u_op b a
  u_conv H.underlying_tWgP H.room_tWg (Go.ConcN.Gen.WgLive.cell0 a).choose_spec b a
  refine Goes.stop (λd c=>?_);clear c;refine⟨rfl,_,λw=>stepG_markAt .acquire (by simp) rfl rfl (by k_ne) rfl H.f_acquire (x_acquire_n L) (x_acquire_b L) (x_acquire_x L) (x_acquire_f L) (by simp[Act.eval,stA]),λw a=>⟨40,?_⟩⟩
  walk_nrm
  u_c aC b a
  repeat (u_c aD b a)
  u_reg b a
  u_op b a
  u_op b a
  u_op b a
  u_op b a
  u_op b a
  u_op b a
  u_op b a
  u_op b a
  u_skip b a
  u_skip b a
  u_op b a
  u_c aC b a
  repeat (u_c aD b a)
  u_cond af b a
  u_c stepG_skip b a
  u_c stepG_ret' b a
  u_leave0 H.f_wait b a
  grind[Goes.stop]
 .obtain⟨S,l⟩:∃S:Int,(v:Int)*KK=S:=⟨_,rfl⟩;have a1:S / 4294967296=(v:Int):=by rw[<-l];simp only[KK];omega
  have b1:bits .and .u64 S 2147483648=0:=by rw[<-l];have:=Go.ConcN.st_flag v 0 (by omega) (by omega);simpa[KK]using this
  have b2:bits .and .u64 S 2147483647=0:=by rw[<-l];have:=Go.ConcN.st_waiters v 0 (by omega) (by omega);simpa[KK]using this
  have c1:IntKind.i32.wrap (v:Int)=(v:Int):=by grind[IntKind.wrap_i32]
  have w1:IntKind.u64.wrap (S+1)=S+1:=by rw[IntKind.wrap_u64,<-l];simp only[KK];omega
  have q3:decide ((v:Int)<0)=af:=iP (by omega);have q4:decide (0<(v:Int))=ab:=db (by omega);have q5:((v:Int)==0)=af:=by grind
  have q6:decide ((v:Int)=0)=af:=iP (by omega);rw[l]at f;refine⟨_,stepG_load_atomic (v:=S) rfl rfl (by k_ne) rfl H.f_loadU64 (x_loadU64_n L) (x_loadU64_b L) (x_loadU64_x L) .u64 (x_loadU64_f L) rfl f.cellSt,λh0=>absurd h0 (by omega),λ_=>⟨80,?_⟩⟩;clear f
  walk_nrm
  u_op b a
  u_c aC b a
  u_c stepG_ret' b a
  u_leave1 H.f_uLoad b a
  u_op b a
  u_c aC b a
  repeat (u_c aD b a)
  u_reg b a
  u_op b a
  u_op b a
  u_op b a
  u_op b a
  u_c aC b a
  repeat (u_c aD b a)
  u_reg b a
  u_op b a
  u_op b a
  u_op b a
  u_op b a
  u_c aC b a
  repeat (u_c aD b a)
  u_reg b a
  u_op b a
  u_op b a
  u_c aC b a
  repeat (u_c aD b a)
  u_cnd af b a
  u_c stepG_skip b a
  repeat (u_c aD b a)
  u_reg b a
  u_op b a
  u_op b a
  u_op b a
  u_op b a
  u_op b a
  u_op b a
  u_call H.f_uCas (nm_uCas L) uCasFn b a
  repeat (u_c aD b a)
  u_reg b a
  u_op b a
  u_c aC b a
  repeat (u_c aD b a)
  u_reg b a
  u_op b a
  u_op b a
  u_op b a
  u_op b a
  u_op b a
  refine Goes.stop (λd c=>?_);replace a:=b a c;clear c;refine⟨rfl,λv' WN f=>⟨λe=>?_,λe=>?_⟩⟩
  .subst e;rw[l]at f⊢;refine⟨_,(stepG_cas_hit (v:=S) (n:=S+1) rfl rfl (by k_ne) rfl H.f_casU64 (x_casU64_n L) (x_casU64_b L) (x_casU64_x L) .u64 (x_casU64_f L) rfl rfl rfl f.cellSt (f.thaw 0)).trans (by rfl),90,?_⟩;replace a:WgLive L.tWg Wg (d.setCell (stA Wg) (.int .u64 (S+1))):=⟨_,_,f.setSt _⟩
   clear f
   walk_nrm
   u_op b a
   u_c aC b a
   u_c stepG_ret' b a
   u_leave1 H.f_uCas b a
   u_c aC b a
   repeat (u_c aD b a)
   u_cond ab b a
   repeat (u_c aD b a)
   u_reg b a
   u_op b a
   u_op b a
   u_op b a
   u_op b a
   u_c aC b a
   repeat (u_c aD b a)
   u_cond ab b a
   repeat (u_c aD b a)
   u_reg b a
   u_op b a
   u_op b a
   u_op b a
   u_conv H.underlying_tPU32 H.room_tU32 (Go.ConcN.Gen.WgLive.cell1 a).choose_spec b a
   refine Goes.stop (λd c=>?_);clear c;refine⟨rfl,_,⟨Wg,1,ae⟩,rfl,λw=>stepG_markAt .write (by simp) rfl rfl (by k_ne) rfl H.f_raceWrite (x_raceWrite_n L) (x_raceWrite_b L) (x_raceWrite_x L) (x_raceWrite_f L) (ad:=⟨Wg,1,ae⟩) (by simp[Act.eval]),λw a=>⟨60,?_⟩⟩
   walk_nrm
   u_c aC b a
   repeat (u_c aD b a)
   u_reg b a
   u_op b a
   u_c aC b a
   repeat (u_c aD b a)
   u_reg b a
   u_op b a
   u_op b a
   u_op b a
   u_op b a
   u_skip b a
   u_op b a
   u_c aC b a
   repeat (u_c aD b a)
   u_cond af b a
   u_c stepG_skip b a
   repeat (u_c aD b a)
   u_reg b a
   u_op b a
   u_op b a
   u_op b a
   u_op b a
   refine Goes.stop (λo i=>?_);replace a:=b a i;clear i;refine⟨rfl,rfl,λ⟨st,f⟩=>stepG_semacquire_wait rfl rfl rfl H.f_semacquire (x_semacquire_n L) (x_semacquire_b L) (x_semacquire_x L) (x_semacquire_f L) (by simp[Act.eval,smA]) f.cellSm,λr=>?_⟩;refine⟨_,(stepG_semacquire (n:=1) rfl rfl (by k_ne) rfl H.f_semacquire (x_semacquire_n L) (x_semacquire_b L) (x_semacquire_x L) (x_semacquire_f L) (by simp[Act.eval,smA]) r.cellSm (by k_ne) (r.thaw 1)).trans (by rfl),40,?_⟩;replace a:WgLive L.tWg Wg (o.setCell (smA Wg) (.int .u32 0)):=⟨_,_,r.setSm 0⟩
   clear r
   walk_nrm
   u_c aC b a
   repeat (u_c aD b a)
   u_reg b a
   u_op b a
   u_op b a
   u_op b a
   u_call H.f_uLoad (nm_uLoad L) uLoadFn b a
   repeat (u_c aD b a)
   u_reg b a
   u_op b a
   u_c aC b a
   repeat (u_c aD b a)
   u_reg b a
   u_op b a
   u_op b a
   u_op b a
   refine Goes.stop (λt k=>?_);replace a:=b a k;clear k;refine⟨rfl,λf=>⟨_,stepG_load_atomic (v:=0) rfl rfl (by k_ne) rfl H.f_loadU64 (x_loadU64_n L) (x_loadU64_b L) (x_loadU64_x L) .u64 (x_loadU64_f L) rfl f.cellSt,40,?_⟩⟩;clear f
   walk_nrm
   u_op b a
   u_c aC b a
   u_c stepG_ret' b a
   u_leave1 H.f_uLoad b a
   u_op b a
   u_op b a
   u_c aC b a
   repeat (u_c aD b a)
   u_cond ab b a
   repeat (u_c aD b a)
   u_reg b a
   refine Goes.stop (λd c=>?_);clear c;refine⟨rfl,_,λw=>stepG_mark0 .enable (by simp) rfl rfl (by k_ne) rfl H.f_enable (x_enable_n L) (x_enable_b L) (x_enable_x L) (x_enable_f L),λw a=>⟨20,?_⟩⟩
   walk_nrm
   u_c aC b a
   repeat (u_c aD b a)
   u_reg b a
   u_op b a
   u_conv H.underlying_tWgP H.room_tWg (Go.ConcN.Gen.WgLive.cell0 a).choose_spec b a
   refine Goes.stop (λd c=>?_);clear c;refine⟨rfl,_,λw=>stepG_markAt .acquire (by simp) rfl rfl (by k_ne) rfl H.f_acquire (x_acquire_n L) (x_acquire_b L) (x_acquire_x L) (x_acquire_f L) (by simp[Act.eval,stA]),λw a=>⟨40,?_⟩⟩
   walk_nrm
   u_c aC b a
   repeat (u_c aD b a)
   u_reg b a
   u_op b a
   u_c aC b a
   repeat (u_c aD b a)
   u_cond af b a
   u_c stepG_skip b a
   u_c stepG_ret' b a
   u_leave0 H.f_wait b a
   grind[Goes.stop]
  .refine⟨_,stepG_cas_miss (v:=(v':Int)*KK) (old:=S) (n:=S+1) rfl rfl (by k_ne) rfl H.f_casU64 (x_casU64_n L) (x_casU64_b L) (x_casU64_x L) .u64 (x_casU64_f L) rfl rfl rfl f.cellSt (f.thaw 0) (by rw[<-l];simp only[KK];omega),30,?_⟩;clear f
   walk_nrm
   u_op b a
   u_c aC b a
   u_c stepG_ret' b a
   u_leave1 H.f_uCas b a
   u_c aC b a
   repeat (u_c aD b a)
   u_cond af b a
   u_c stepG_skip b a
   u_c stepG_inBlock b a
   u_c stepG_inLoop b a
   exact Goes.stop λ_ _=>⟨_,rfl,by simp,by simp⟩
end
section
open Go.Conc Go.Conc.Lib
open Go.ConcN (WgLive)
open Go.ConcR (KK WgAt stA smA rd wr mk DC0 Payload)
def fx(ty:aj)(Wg:Nat)(w w1:aA):Prop:=WgLive ty Wg w->WgLive ty Wg w1
def fx.refl{ty:aj}{Wg:Nat}(w:aA):fx ty Wg w w:=id
def fx.trans{ty:aj}{Wg:Nat}{a b c:aA}(h:fx ty Wg a b)(k:fx ty Wg b c):fx ty Wg a c:=λx=>k (h x)
def ye(R:aA->aA->Prop)(Stop:av->aA->Prop)(g:av)(w:aA):Prop:=∀w1,R w w1->Stop g w1
def Goes.all{P:ar}{main:Bool}{R:aA->aA->Prop}{D:aA->aA->Array Event->Prop}{Stop:av->aA->Prop}(hT:∀a b c,R a b->R b c->R a c):
  ∀{n:Nat} {g:av} {w:aA},Goes P main R D Stop n g w->Goes P main R D (ye R Stop) n g w
 |0,g,w,h=>λw1 l w2 p=>h w2 (hT _ _ _ l p)
 |n+1,g,w,h=>by
  rcases h with h|⟨d,h⟩
  .exact .inl λw1 l w2 p=>h w2 (hT _ _ _ l p)
  .refine .inr ⟨d,λw1 l=>?_⟩;have p:=h w1 l;cases j:aH P main g w1 with
   |go g' w' es =>
    rw[j,goes_go]at p;rw[goes_go];exact⟨p.1,Goes.all hT p.2⟩
   |_=>rw[j]at p;exact p.elim
structure Apart(Wg:Nat)(F:St->Prop):Prop where
 rely:∀s s',F s->ck s s'->F s'
 heap:∀s,F s->∃σ,aF σ s
 free:∀s,F s->¬s.own Wg/\(∀L∈s.β,Wg∉L.bs)/\∀o,s.M Wg o=ae
section
variable {P:ar}{L:WgLink}{Wg:Nat}{F:St->Prop}
def yL(ty:aj)(Wg:Nat)(F:St->Prop)(s:St):Prop:=F s/\WgLive ty Wg s.w
def Apart.Qi(A:Apart Wg F){s:St}(h:F s):gM s:=(A.heap s h).choose_spec.mem
def Apart.set(A:Apart Wg F){s:St}(h:F s)(a:Addr)(x:a.block=Wg)(v:ah):ck s {s with w:=s.w.setCell a v}:=by
 obtain⟨l,p,y⟩:=A.free s h;have hk:∀b,b≠Wg->(s.w.setCell a v).heap[b]?=s.w.heap[b]?:=λb k=>by have:=(aside_setCell s.w a v).block b (by grind);exact this
 refine⟨rfl,rfl,rfl,Nat.le_of_eq (aside_setCell s.w a v).size.symm,λb k=>hk b ?_,λb o u j=>?_,(aside_setCell s.w a v).os,(aside_setCell s.w a v).tape,(aside_setCell s.w a v).output⟩
 .grind
 .have E:b≠Wg:=by grind
  show(s.w.setCell a v).cell? _=_;rw[jO (hk b E) o];exact A.Qi h b o u j
def Apart.next(A:Apart Wg F){ty:aj}{s i:St}(h:yL ty Wg F s)(r:(Cx.lead P ty Wg).rely s i):yL ty Wg F i:=⟨A.rely s i h.1 r.1,r.2 h.2⟩
def Apart.here(A:Apart Wg F){ty:aj}{s:St}(h:yL ty Wg F s):(Cx.lead P ty Wg).rely s s:=⟨ck.wF (A.Qi h.1),id⟩
def Apart.goes(A:Apart Wg F){ty:aj}{S:av->St->Prop}{Stop:av->aA->Prop}(k:∀g s,yL ty Wg F s->ye (fx ty Wg) Stop g s.w->er (Cx.lead P ty Wg) (Es Wg) S g s){n:Nat}{g:av}{s:St}(d:yL ty Wg F s)(h:Goes P ab (fx ty Wg) DC0 Stop n g s.w):er (Cx.lead P ty Wg) (Es Wg) S g s:=by refine er.goes (X:=Cx.lead P ty Wg) (R:=fx ty Wg) (D:=DC0) (Stop:=ye (fx ty Wg) Stop) (yL ty Wg F) (λs i hi f=>A.next hi f) (λs i _ f=>f.2) ?_ (λs hi=>A.here hi) k n g s d (Goes.all (λ_ _ _ l p=>l.trans p) h);rintro s es hi w' ⟨rfl,rfl⟩;exact⟨rfl,.inl (.quiet (A.heap s hi.1).choose_spec)⟩
end
set_option maxRecDepth 100000 in
def Eg{P:ar}{L:WgLink}(H:WgLib P L){Wg:Nat}:Frame.enter P L.add #[.pointer (aa ⟨Wg,0,ae⟩),.int .i64 1] .normal=(base L.add).at ⟨#[.pointer (aa ⟨Wg,0,ae⟩),.int .i64 1,ai,ai,ai,ai,ai,ai,ai,ai,ai,ai,ai,ai,ai,ai,ai,ai,ai,ai,ai,ai,ai,ai,ai,ai,ai,ai,ai,ai,ai,ai,ai,ai,ai,ai,ai,ai,ai,ai,ai,ai,ai,ai,ai,ai,ai,ai,ai,ai,ai,ai,ai,ai,ai,ai,ai,ai,ai,ai,ai,ai,ai,ai,ai,ai,ai,ai,ai,ai,ai,ai,ai,ai,ai,ai,ai,ai,ai,ai,ai,ai,ai,ai,ai,ai,ai,ai,ai,ai,ai,ai,ai,ai,ai,ai,ai,ai,ai,ai,ai,ai,ai,ai,ai,ai,ai,ai,ai,ai,ai,ai,ai,ai,ai,ai,ai],[]⟩ [.code (Go.ConcR.Gen.body_add L)] :=
 (enter_at (c:=Go.ConcR.Gen.body_add L) _ H.f_add (by kernel_rfl)).trans (by kernel_rfl)
set_option maxRecDepth 100000 in
def Cd{P:ar}{L:WgLink}(H:WgLib P L){Wg:Nat}:Frame.enter P L.wait #[.pointer (aa ⟨Wg,0,ae⟩)] .normal=(base L.wait).at ⟨#[.pointer (aa ⟨Wg,0,ae⟩),ai,ai,ai,ai,ai,ai,ai,ai,ai,ai,ai,ai,ai,ai,ai,ai,ai,ai,ai,ai,ai,ai,ai,ai,ai,ai,ai,ai,ai,ai,ai,ai,ai,ai,ai,ai,ai,ai,ai,ai,ai,ai,ai,ai,ai,ai,ai,ai,ai,ai,ai,ai,ai,ai,ai,ai,ai,ai,ai,ai,ai,ai,ai,ai,ai,ai,ai,ai,ai,ai,ai,ai,ai,ai,ai,ai,ai,ai,ai,ai,ai,ai,ai],[]⟩ [.code (Go.ConcR.Gen.body_wait L)] :=
 (enter_at (c:=Go.ConcR.Gen.body_wait L) _ H.f_wait (by kernel_rfl)).trans (by kernel_rfl)
section
variable [Payload]{P:ar}{L:WgLink}{Y:Lay}{F:St->Prop}{N n:Nat}{val:Nat->Nat->ah}
def YK(H:WgLib P L)(A:Apart Y.Wg F){j:Nat}{Next:av->St->Prop}{b₀:aR}{a₀:Act}{ops₀:Array au}{i₀:Nat}{rest₀:List Nat}{k₀:List Item}{cs:List aR}(o:∀s,yL L.tWg Y.Wg F s->er (Cx.lead P L.tWg Y.Wg) (Es Y.Wg) (AtGo P L.tWg Y N val j Next) (G (b₀.at (a₀.put ((ops₀[i₀]?).bind (·.dst)) (.tuple #[])) (.inRegion ops₀ rest₀::k₀)) cs) s){s:St}(d:yL L.tWg Y.Wg F s):
  er (Cx.lead P L.tWg Y.Wg) (Es Y.Wg) (AtKdS P L.tWg Y N val j Next) (G (Frame.enter P L.add #[.pointer (aa ⟨Y.Wg,0,ae⟩),.int .i64 1] .normal) (b₀.at a₀ (.inRegion ops₀ (i₀::rest₀)::k₀)::cs)) s:=by
 have z:∀g s,yL L.tWg Y.Wg F s->YL P (fx L.tWg Y.Wg) L Y.Wg (G (b₀.at (a₀.put ((ops₀[i₀]?).bind (·.dst)) (.tuple #[])) (.inRegion ops₀ rest₀::k₀)) cs) g s.w->er (Cx.lead P L.tWg Y.Wg) (Es Y.Wg) (AtKeS P L.tWg Y N val j Next) g s:=by rintro g s d ⟨l,g',p,y⟩;refine⟨.leaf,l,g',p,λi f=>?_⟩;have a:=A.next d f;obtain⟨m,q⟩:=y i.w a.2;exact A.goes (λg s d h=>by obtain rfl:=h s.w (.refl _);grind) a q
 have k:∀g s,yL L.tWg Y.Wg F s->ye (fx L.tWg Y.Wg) (GA1 P (fx L.tWg Y.Wg) L Y.Wg (G (b₀.at (a₀.put ((ops₀[i₀]?).bind (·.dst)) (.tuple #[])) (.inRegion ops₀ rest₀::k₀)) cs)) g s.w->er (Cx.lead P L.tWg Y.Wg) (Es Y.Wg) (AtA1 P L.tWg Y N val j Next) g s:=by
  rintro g s d h;refine⟨.leaf,(h s.w (.refl _)).1,λi f v I t=>?_⟩;have a:=A.next d f;obtain⟨g',l,m,q⟩:=(h i.w f.2).2 v I t;have b:yL L.tWg Y.Wg F {i with w:=i.w.setCell (stA Y.Wg) (.int .u64 ((v+1)*KK))}:=⟨A.rely _ _ a.1 (A.set a.1 _ rfl _),⟨_,_,t.setSt _⟩⟩;refine⟨g',l,A.goes (λg s d h=>?_) b q⟩
  rcases h s.w (.refl _)with h|h
  .obtain⟨l,g',ad,p,y,Z⟩:=h;refine .step l λi f=>⟨g',i,_,y i.w,.inr ⟨rfl,ad,p,.inl rfl⟩,?_⟩
   have a:=A.next d f;obtain⟨m,q⟩:=Z i.w a.2;exact A.goes (λg s d h=>z g s d (h s.w (.refl _))) a q
  grind
 have t:=Of (P:=P) (L:=L) H (R:=fx L.tWg Y.Wg) (Wg:=Y.Wg) (λh r=>r h) (b₀:=b₀) (a₀:=a₀) (ops₀:=ops₀) (i₀:=i₀) (rest₀:=rest₀) (k₀:=k₀) (cs:=cs) s.w d.2;rw[Eg H];refine A.goes (λg s d h=>?_) d t;obtain⟨l,g',p,y⟩:=h s.w (.refl _);refine⟨.leaf,l,g',p,λi f=>?_⟩;have a:=A.next d f;obtain⟨m,q⟩:=y i.w a.2;exact A.goes k a q
section
variable (P L Y F)
def TW(B g:av)(s:St):Prop:=yL L.tWg Y.Wg F s/\∃m,Goes P ab (fx L.tWg Y.Wg) DC0 (λg _=>g=B) m g s.w
def Gd(c:aR)(cs:List aR)(g:av)(s:St):Prop:=yL L.tWg Y.Wg F s/\∃m,Goes P ab (fx L.tWg Y.Wg) DC0 (λg _=>R2 L Y.Wg c cs g) m g s.w
end
variable {b₀:aR}{a₀:Act}{ops₀:Array au}{i₀:Nat}{rest₀:List Nat}{k₀:List Item}{cs:List aR}
omit [Payload]in
def U8(H:WgLib P L)(A:Apart Y.Wg F){T J:av->St->Prop}(K:∀g s,TW P L Y F (G (b₀.at (a₀.put ((ops₀[i₀]?).bind (·.dst)) (.tuple #[])) (.inRegion ops₀ rest₀::k₀)) cs) g s->T g s)(C:∀g s,Gd P L Y F (b₀.at a₀ (.inRegion ops₀ (i₀::rest₀)::k₀)) cs g s->J g s){g:av}{s:St}(h:Gd P L Y F (b₀.at a₀ (.inRegion ops₀ (i₀::rest₀)::k₀)) cs g s):
  er (Cx.lead P L.tWg Y.Wg) (Es Y.Wg) (AtW1 P L.tWg Y T J) g s:=by
 generalize hc:b₀.at a₀ (.inRegion ops₀ (i₀::rest₀)::k₀)=c at *;generalize Q:G (b₀.at (a₀.put ((ops₀[i₀]?).bind (·.dst)) (.tuple #[])) (.inRegion ops₀ rest₀::k₀)) cs=B at K;have O:∀g s,yL L.tWg Y.Wg F s->ye (fx L.tWg Y.Wg) (U9 P (fx L.tWg Y.Wg) L Y.Wg B) g s.w->er (Cx.lead P L.tWg Y.Wg) (Es Y.Wg) (AtAcq P L.tWg Y T) g s:=by intro g s d h;obtain⟨l,g',p,y⟩:=h s.w (.refl _);exact⟨.leaf,l,g',p,λi f=>K _ _ ⟨A.next d f,y i.w (A.next d f).2⟩⟩
 have z:∀g s,yL L.tWg Y.Wg F s->ye (fx L.tWg Y.Wg) (YM P (fx L.tWg Y.Wg) L Y.Wg B) g s.w->er (Cx.lead P L.tWg Y.Wg) (Es Y.Wg) (AtKe P L.tWg Y T) g s:=by intro g s d h;obtain⟨l,g',p,y⟩:=h s.w (.refl _);refine⟨.leaf,l,g',p,λi f=>?_⟩;obtain⟨m,q⟩:=y i.w (A.next d f).2;exact A.goes O (A.next d f) q
 have U:∀g s,yL L.tWg Y.Wg F s->ye (fx L.tWg Y.Wg) (HW4 P (fx L.tWg Y.Wg) L Y.Wg B) g s.w->er (Cx.lead P L.tWg Y.Wg) (Es Y.Wg) (AtW4 P L.tWg Y T) g s:=by intro g s d h;refine⟨.leaf,(h s.w (.refl _)).1,λi f t=>?_⟩;obtain⟨g',l,m,q⟩:=(h i.w f.2).2 t;exact⟨g',l,A.goes z (A.next d f) q⟩
 have W:∀g s,yL L.tWg Y.Wg F s->ye (fx L.tWg Y.Wg) (HW3 P (fx L.tWg Y.Wg) L Y.Wg B) g s.w->er (Cx.lead P L.tWg Y.Wg) (Es Y.Wg) (AtW3 P L.tWg Y T) g s:=by intro g s d h;refine⟨.leaf,(h s.w (.refl _)).1,(h s.w (.refl _)).2.1,λi f=>⟨(h i.w f.2).2.2.1,λt=>?_⟩⟩;obtain⟨g',l,m,q⟩:=(h i.w f.2).2.2.2 t;exact⟨g',l,A.goes U (s:={i with w:=i.w.setCell (smA Y.Wg) (.int .u32 0)}) ⟨A.rely _ _ (A.next d f).1 (A.set (A.next d f).1 _ rfl _),⟨_,_,t.setSm 0⟩⟩ q⟩
 have V:∀g s,yL L.tWg Y.Wg F s->ye (fx L.tWg Y.Wg) (HWr P (fx L.tWg Y.Wg) L Y.Wg B) g s.w->er (Cx.lead P L.tWg Y.Wg) (Es Y.Wg) (AtW3 P L.tWg Y T) g s:=by
  intro g s d h;obtain⟨l,g',ad,p,y,Z⟩:=h s.w (.refl _);refine .step l λi f=>⟨g',i,_,y i.w,.inr ⟨rfl,ad,p,.inr rfl⟩,?_⟩
  obtain⟨m,q⟩:=Z i.w (A.next d f).2;exact A.goes W (A.next d f) q
 have gW2:∀(v:Nat) g s,yL L.tWg Y.Wg F s->ye (fx L.tWg Y.Wg) (HW2 P (fx L.tWg Y.Wg) L Y.Wg B (R2 L Y.Wg c cs) v) g s.w->er (Cx.lead P L.tWg Y.Wg) (Es Y.Wg) (AtW2 P L.tWg Y T J v) g s:=by
  intro vs g s d h;refine⟨.leaf,(h s.w (.refl _)).1,λi f v I t=>⟨λe=>?_,λe=>?_⟩⟩
  .obtain⟨g',l,m,q⟩:=((h i.w f.2).2 v I t).1 e;exact⟨g',l,A.goes V (s:={i with w:=i.w.setCell (stA Y.Wg) (.int .u64 (v*KK+1))}) ⟨A.rely _ _ (A.next d f).1 (A.set (A.next d f).1 _ rfl _),⟨_,_,t.setSt _⟩⟩ q⟩
  .obtain⟨g',l,m,q⟩:=((h i.w f.2).2 v I t).2 e;exact⟨g',l,C _ _ ⟨A.next d f,m,q⟩⟩
 obtain⟨d,m,q⟩:=h;refine A.goes (λg s d h=>?_) d q;obtain⟨m,t⟩:=Eh (P:=P) (L:=L) H (R:=fx L.tWg Y.Wg) (Wg:=Y.Wg) (λh r=>r h) (b₀:=b₀) (a₀:=a₀) (ops₀:=ops₀) (i₀:=i₀) (rest₀:=rest₀) (k₀:=k₀) (cs:=cs) g (by rw[hc];exact h s.w (.refl _)) s.w d.2;rw[hc,Q]at t;refine A.goes (λg s d h=>?_) d t;refine⟨.leaf,(h s.w (.refl _)).1,λi f v I t=>?_⟩;obtain⟨g',l,p,y⟩:=(h i.w f.2).2 v I t;refine⟨g',l,λh0=>?_,λE=>?_⟩
 .obtain⟨m,q⟩:=p h0;exact A.goes z (A.next d f) q
 .obtain⟨m,q⟩:=y E;exact A.goes (gW2 v) (A.next d f) q
omit [Payload]in
def Va(H:WgLib P L)(A:Apart Y.Wg F){c:aR}{J:av->St->Prop}(C:∀g s,Gd P L Y F c cs g s->J g s){s:St}(d:yL L.tWg Y.Wg F s):
  er (Cx.lead P L.tWg Y.Wg) (Es Y.Wg) (AtKd P L.tWg Y J) (G (Frame.enter P L.wait #[.pointer (aa ⟨Y.Wg,0,ae⟩)] .normal) (c::cs)) s:=by have t:=Ei (P:=P) (L:=L) H (R:=fx L.tWg Y.Wg) (Wg:=Y.Wg) (λh r=>r h) (c:=c) (cs:=cs) s.w d.2;rw[Cd H];refine A.goes (λg s d h=>?_) d t;obtain⟨l,g',p,y⟩:=h s.w (.refl _);exact⟨.leaf,l,g',p,λi f=>C _ _ ⟨A.next d f,y i.w (A.next d f).2⟩⟩
end
end
section
open Go.Conc Go.RowKit Go.Conc.Lib Go.ConcR.Gen
open Go.ConcN (WgLive Has RW DWs AtR0 EvW)
open Go.ConcN.Gen
open Go.ConcR (KK WgAt stA smA rd wr mk DC0 Payload)
section
variable {P:ar}{R:aA->aA->Prop}{D:aA->aA->Array Event->Prop}{Stop A:av->aA->Prop}
def Goes.never(b:∀w,R w w)(f:∀g w,Stop g w->∃g' e,aH P af g w=.go g' w #[e])(d:∀n g w,A g w->¬Goes P af R D Stop n g w):
  ∀(m n:Nat) (g:av) (w:aA),Goes P af R DC0 A m g w->¬Goes P af R D Stop n g w
 |0,n,g,w,h,k=>d n g w (h w (b w)) k
 |m+1,n,g,w,h,k=>by
  rcases h with h|⟨_,h⟩
  .grind
  .have h1:=h w (b w);cases a:aH P af g w with
   |go g' w' es =>
    rw[a,goes_go]at h1;obtain⟨⟨rfl,rfl⟩,h2⟩:=h1;have no:¬Stop g w':=λi=>by grind
    cases n with
    |zero=>exact no (k w' (b w'))
    |succ n =>
     rcases k with k|⟨_,k⟩
     .grind
     .have k1:=k w' (b w');rw[a,goes_go]at k1;exact Goes.never b f d m n g' w' h2 k1.2
   |_=>rw[a]at h1;exact h1.elim
def Goes.meet(d:∀w,R w w)(i:∀g w,Stop g w->∃g' e,aH P af g w=.go g' w #[e])(b:∀n g w,A g w->Goes P af R D Stop n g w->∀w1,R w w1->Stop g w1):
  ∀(m n:Nat) (g:av) (w:aA),Goes P af R DC0 A m g w->Goes P af R D Stop n g w->Goes P af R DC0 Stop m g w
 |0,n,g,w,h,k=>b n g w (h w (d w)) k
 |m+1,n,g,w,h,k=>by
  rcases h with h|⟨f,h⟩
  .exact .inl (b n g w (h w (d w)) k)
  .refine .inr ⟨f,λw1 hr=>?_⟩;have h1:=h w1 hr;cases a:aH P af g w1 with
   |go g' w' es =>
    rw[a,goes_go]at h1;rw[goes_go];obtain⟨⟨rfl,rfl⟩,h2⟩:=h1;have no:¬Stop g w':=λf=>by grind
    refine⟨⟨rfl,rfl⟩,?_⟩;cases n with
    |zero=>exact absurd (k w' hr) no
    |succ n =>
     rcases k with k|⟨_,k⟩
     .grind
     .have k1:=k w' hr;rw[a,goes_go]at k1;exact Goes.meet d i b m n g' w' h2 k1.2
   |_=>rw[a]at h1;exact h1.elim
end
variable [Payload]{L:WgLink}{P:ar}{Wg C n Low x:Nat}{val:ah}{c:aR}{cs:List aR}
def StK(P:ar)(g:av)(_:aA):Prop:=∃a,∀w,aH P af g w=.go a w #[mk .disable]
def StR(P:ar)(L:WgLink)(Wg C n Low x:Nat)(val:ah)(g:av)(w:aA):Prop :=
 (WgLive L.tWg Wg w/\Has C (x-1) val w)/\∃a,(∀w,aH P af g w=.go a w #[mk (.releaseMerge (stA Wg))])/\∀w,WgLive L.tWg Wg w/\Has C (x-1) val w->∃m,Goes P af (RW L.tWg Wg C n Low (x-1)) DC0 (StK P) m a w
set_option maxRecDepth 100000 in
def MX(H:WgLib P L)(w:aA)(a:WgLive L.tWg Wg w/\Has C (x-1) val w):
  Goes P af (RW L.tWg Wg C n Low (x-1)) DC0 (StR P L Wg C n Low x val) 23 (G ((baseD L.done).at ⟨#[.pointer (aa ⟨Wg,0,ae⟩),ai,ai,ai],[]⟩ [.code (body_done L)]) (c::cs)) w:=by
 lib_facts
 simp only[body_done,body_add,doneFn,addFn,im]
 u_reg kn_rely a
 u_op kn_rely a
 u_in kn_rely a
 refine goes_call rfl rfl (by k_ne) rfl H.f_add (nm_add L) rfl ⟨by u_nil,?_⟩
 walk_nrmf addFn
 repeat (u_c aD kn_rely a)
 u_cond ab kn_rely a
 repeat (u_c aD kn_rely a)
 u_reg kn_rely a
 u_op kn_rely a
 u_op kn_rely a
 u_c aC kn_rely a
 repeat (u_c aD kn_rely a)
 u_cond ab kn_rely a
 u_reg kn_rely a
 u_op kn_rely a
 u_conv H.underlying_tWgP H.room_tWg (Go.ConcN.Gen.WgLive.cell0 a.1).choose_spec kn_rely a
 refine Goes.stop (λd b=>?_);replace a:=kn_rely a b;clear b;refine⟨a,_,λw=>stepG_markAt .releaseMerge (by simp) rfl rfl (by k_ne) rfl H.f_relMerge (x_relMerge_n L) (x_relMerge_b L) (x_relMerge_x L) (x_relMerge_f L) (by simp[Act.eval,stA]),λw a=>⟨10,?_⟩⟩
 walk_nrm
 u_c aC kn_rely a
 repeat (u_c aD kn_rely a)
 u_reg kn_rely a
 exact Goes.stop λd b=>⟨_,λw=>stepG_mark0 .disable (by simp) rfl rfl (by k_ne) rfl H.f_disable (x_disable_n L) (x_disable_b L) (x_disable_x L) (x_disable_f L)⟩
def Vo(H:WgLib P L){p:Nat}(f:c.mode=.returning)(hT:QuitsD P p 0 (G c cs))(w:aA)(d:WgLive L.tWg Wg w/\Has C (x-1) val w):
  Goes P af (RW L.tWg Wg C n Low (x-1)) DC0 (AtR0 P L.tWg Wg C n Low x val) 23 (G ((baseD L.done).at ⟨#[.pointer (aa ⟨Wg,0,ae⟩),ai,ai,ai],[]⟩ [.code (body_done L)]) (c::cs)) w:=by
 have y:=doneN (Own:=λ_ _=>False) (Rd:=λ_ _=>False) (Low:=Low) (n:=n) H f hT w d;have j:∀g w,AtR0 P L.tWg Wg C n Low x val g w->∃g' e,aH P af g w=.go g' w #[e]:=λg w h=>by obtain⟨_,_,g',v,_⟩:=h;grind
 have z:(mk (.releaseMerge (stA Wg)):Event)≠mk .disable:=by simp[mk]
 refine Goes.meet (λw=>.refl w) j ?_ _ _ _ _ (MX H w d) y;intro o g w h k w1 hr;obtain⟨d,q,v,r⟩:=h;have a:AtR0 P L.tWg Wg C n Low x val g w1∨∃i,Goes P af (RW L.tWg Wg C n Low (x-1)) (DWs Wg (λ_ _=>False) (λ_ _=>False) C n x) (AtR0 P L.tWg Wg C n Low x val) i q w1:=by
  cases o with
  |zero=>exact .inl (k w1 hr)
  |succ o =>
   rcases k with k|⟨_,k⟩
   .grind
   grind[goes_go]
 rcases a with h|⟨i,h⟩
 .exact h
 .exfalso;obtain⟨m,B⟩:=r w1 (kn_rely d hr);refine Goes.never (λw=>.refl w) j ?_ _ _ _ _ B h;rintro l u w4 ⟨E,t⟩ k;have b:∀w,¬AtR0 P L.tWg Wg C n Low x val u w:=λw s=>by obtain⟨_,_,F,I,_⟩:=s;grind
  cases l with
  |zero=>exact b w4 (k w4 (.refl w4))
  |succ l =>
   rcases k with k|⟨_,k⟩
   .exact b w4 (k w4 (.refl w4))
   .have k1:=k w4 (.refl w4);rw[t w4,goes_go]at k1;have:=(k1.1.2 _ (Array.mem_singleton.2 rfl)).2.1;exact this rfl
end
section
open Go.RowKit
open Go.Conc (G solo crowd AtRel Past EvL Leavers)
def St.top(w:aA):St:={β:=[],M:=λb o=>w.cell? ⟨b,o,ae⟩,w:=w,own:=λb=>b<w.heap.size}
def aF.top(w:aA):aF [] (St.top w):=⟨λ_ _ _ h=>h,rfl,by simp,by simp[St.top],by simp[St.top],λb a=>⟨a,by simp[St.top]⟩⟩
def RY{P:ar}{f:aJ}{c:aR}{v:ah}{s:St}(h:uI P f c v s)(hi:P.inits.idxOf? f=ae)(w:aA)(k:∀b o u,s.M b o=aa u->w.cell? ⟨b,o,ae⟩=aa u):∃es,aH P ab (G c []) w=.ended (.done v) w es/\∀e∈es,∃b o u,e=⟨.cell ⟨b,o,ae⟩,af,af⟩/\s.M b o=aa u:=by
 obtain⟨fn,j,a⟩:=h.fn;obtain⟨i,l⟩:=a w k;refine⟨seen P c.fn ((results fn c.tmps).events P w #[]),?_,λe g=>l e (Go.Conc.mem_seen g)⟩;have d:P.inits.idxOf? c.fn=ae:=by rw[h.isF];exact hi
 simp[G,aH,unwind,doReturn,h.mode,h.defers,h.kind,j,i,d,GStep.after]
abbrev Gl:=Nat×aj×ah
abbrev Oe(gs:List Gl):List aP:=gs.map λx=>.b8 (dJ x.1 x.2.1 x.2.2)
def St.uN(gs:List Gl)(w:aA):St:={β:=gs.map λx=>⟨.pointer (aa ⟨x.1,0,ae⟩),[x.1]⟩,M:=λb o=>if b∈gs.map (·.1)then ae else w.cell? ⟨b,o,ae⟩,w:=w,own:=λb=>b<w.heap.size/\b∉gs.map (·.1)}
def aF.uN{gs:List Gl}{w:aA}(n:(gs.map (·.1)).Nodup)(m:∀x∈gs,w.heap[x.1]?=aa (.cells #[x.2.2] x.2.1 (0,0))):aF (Oe gs) (St.uN gs w):=by
 have k:∀x∈gs,x.1<w.heap.size:=λx j=>(ij.1 (m x j)).1;have f:∀(l:Nat) (L:Loc),(St.uN gs w).β[l]?=aa L->∃x,gs[l]?=aa x/\L=⟨.pointer (aa ⟨x.1,0,ae⟩),[x.1]⟩:=λl L h=>by simp only[St.uN,mV,qP]at h;grind
 refine⟨λb o v g=>?_,by simp[St.uN],λl B L hB hl=>?_,λl l' L L' h1 h2 b a d=>?_,λL h b a=>?_,λb a=>⟨a.1,λL h c=>?_⟩⟩
 .simp only[St.uN]at g;split at g
  .cases g
  .exact g
 .obtain⟨x,h1,rfl⟩:=f l L hl;simp only[Oe,mV,h1,n5,dn]at hB;subst hB;have j:=bJ h1;refine⟨λb=>if b=x.1 then aa (.cells #[x.2.2] x.2.1 (0,0))else ae,⟨rfl,bl rfl,λb a=>aZ a⟩,λb o a=>?_,λb=>?_,λb a o=>?_⟩
  .simp only at a;split at a
   .rename_i e;cases a;rw[e];exact m x j
   grind
  .by_cases e:b=x.1<;>simp[e]
  .rw[fX]at a;subst a;exact bl (kB.2 ⟨x,j,rfl⟩)
 .obtain⟨x,i,rfl⟩:=f l L h1;obtain⟨y,p,rfl⟩:=f l' L' h2;rw[fX]at a d;have e:x.1=y.1:=a.symm.trans d;have a1:(gs.map (·.1))[l]?=aa x.1:=by grind
  have a2:(gs.map (·.1))[l']?=aa x.1:=by grind
  grind[List.getElem?_inj]
 .obtain⟨l,hl⟩:=zr h;obtain⟨x,i,rfl⟩:=f l L hl;rw[fX]at a;subst a;exact k x (bJ i)
 .obtain⟨l,hl⟩:=zr h;obtain⟨x,i,rfl⟩:=f l L hl;rw[fX]at c;subst c;exact a.2 (kB.2 ⟨x,bJ i,rfl⟩)
def aF.YI{gs:List Gl}{s:St}(h:aF (Oe gs) s){x:Gl}(b:x∈gs):s.w.heap[x.1]?=aa (.cells #[x.2.2] x.2.1 (0,0)):=by
 obtain⟨l,hl⟩:=zr b;have hB:(Oe gs)[l]?=aa (.b8 (dJ x.1 x.2.1 x.2.2)):=by grind
 have a:l<s.β.length:=by rw[h.len];grind
 obtain⟨ch,⟨_,h2,_⟩,c,_⟩:=h.box l _ _ hB (br a);grind
def eb.U7{P:ar}{ι:Type}{f:aJ}{args:List D}{res:ι->D}{gs:List Gl}(h:eb (Cx.beside P) f args (Oe gs) res (λ_=>Oe gs))(hi:P.inits.idxOf? f=ae){w:aA}(K:(gs.map (·.1)).Nodup)(y:∀x∈gs,w.heap[x.1]?=aa (.cells #[x.2.2] x.2.1 (0,0))){vs:List ah}(R:cg (Oe gs) (St.uN gs w) vs args){Post:ah->aA->Prop}(z:∀i v s',dk (Oe gs) s' v (res i)->Below w.heap.size w s'.w->∀d,Post v (s'.w.at d)):
  ∃M last o w' t',runNT P (M+1) (solo (G (Frame.enter P f vs.toArray .normal) []) w) #[]=(.ended o w',t')/\runN P M (solo (G (Frame.enter P f vs.toArray .normal) []) w)=.next last /\
   step P last=.ended o w'/\Go.Conc.Good P Post last o w' t':=by
 have j:=aF.uN K y;have key:=h.2 (St.uN gs w) vs R j (λg s'=>∃i v fr,g=G fr []/\uI P f fr v s'/\dk (Oe gs) s' v (res i)/\Below w.heap.size w s'.w) []
  (λi fr v s' h1 h2 h3 h4=>.stop ⟨i,v,fr,rfl,h1,h2,⟨h4.os,h4.tape,h4.output,h4.size,λk hk=>by
   by_cases e:k∈gs.map (·.1)
   .obtain⟨x,t,rfl⟩:=kB.1 e;rw[h3.YI t,y x t]
   .exact h4.fb k ⟨hk,e⟩⟩⟩)
 have Q:AM.lW (λ_=>False)=λ_=>False:=by funext l;cases l<;>rfl
 obtain⟨N,q,r,g',s',m,t',U,h1,h2,h3,h4,H,L,W,⟨i,v,fr,rfl,k1,S,O⟩⟩:=key.beside (λ_=>False) #[G (Frame.enter P f vs.toArray .normal) []] ae #[] (λ_=>0) j.mem rfl (Go.Conc.leavers_one P _)
  (by rw[Q];exact Go.Conc.past_nil.mono (lk _)) ⟨λ_ h=>h.elim,λ_ h=>h.elim,λ_ h=>h.elim,λ_ h=>h.elim⟩ (λa=>by intro i hi;simp[Trace.act?]at hi)
 have c:=Go.Conc.beside_ends (P:=P) (Shun:=AM.lW q) (B:=s'.w.heap.size) (D:=λ_ _ _=>False) (Post:=Post) (λ_ _ _ h=>h.elim) (sl:=m) (n:=0) h3 h4 H (Go.Conc.Goes.stop λw1 Q1=>by
  obtain⟨d,rfl⟩:=Q1;obtain⟨es,e1,e2⟩:=RY k1 hi (s'.w.at d) (λb o u s=>h2 b o u s);refine⟨rfl,v,es,e1,λe T=>?_,z i v s' S O d⟩;obtain⟨b,o,u,rfl,s⟩:=e2 e T;refine Go.Conc.evL_cell _ _ (λE=>?_) (gM.lt h2 s);have:=L.M b E o
  grind)
 obtain⟨p,last,o,w',F,C,V,I,A⟩:=c;refine⟨N+p,last,o,w',F,?_,?_,I,A⟩
 .rw[show N+p+1=N+(p+1) by omega];exact(runNT_add N (p+1) h1).trans C
 .have e:=runNT_fst P N (crowd #[G (Frame.enter P f vs.toArray .normal) []] w ae) #[];have J:(runNT P N (crowd #[G (Frame.enter P f vs.toArray .normal) []] w ae) #[]).1=.next (crowd r s'.w m):=by have:runNT P N (crowd #[G (Frame.enter P f vs.toArray .normal) []] w ae) #[]=_:=h1;grind
  grind[Go.Conc.solo_eq_crowd,runN_add]
def Rd.uN{gs:List Gl}{w:aA}(o:∀x∈gs,w.heap[x.1]?=aa (.cells #[x.2.2] x.2.1 (0,0)))(hi:∀x∈gs,∃T u,x.2.2=.iface T u){v:ah}{t:Bool}{k n:Nat}{es:Nat->List C}(f:∀(i j:Nat)(c:C),(es i)[j]?=aa c->∃kd m,c=C.int kd m)(h:Rd (St.top w).M v (.sl t k n es)):Rd (St.uN gs w).M v (.sl af k n es):=by
 obtain⟨a,cap,b,off,rfl,h1,h2,r,q,s⟩:=h.Ed;refine .RN h1 h2 r q λi g j c hj=>?_;obtain⟨u,d,q2⟩:=s i g j c hj;obtain⟨kd,m,rfl⟩:=f i j c hj;cases q2 with
 |int hr =>
  refine⟨_,?_,.int hr⟩;have d:w.cell? ⟨b,off+i*k+j,ae⟩=aa (.int kd m):=d;show(if b∈gs.map (·.1)then ae else w.cell? _)=_;rw[aZ,d];intro p;obtain⟨x,l,rfl⟩:=kB.1 p;obtain⟨T,u,e⟩:=hi x l;simp only[aV,o x l,e]at d;grind
end
section
open Go.ChangeShapes Go.WideShapes Go.ChangeAt Go.RowKit
def AL{H:Type}{enc:aj×ah->H}{a:Assume}{C:Checked}{os:Os}{f:aJ}{fn:Func}{s:ChangeSpec}{d:List PathCond}{apart fresh handsOn again:Bool}{X:aA->Array ah->Prop}(D:∀(w w':aA) (args:Array ah),w.heap=w'.heap->X w args->X w' args)(own:ownKnob C.prog.godebug=ae)(h:os.Started)(r:C.prog.funcs[f]?=aa fn)(g:∃(w:aA) (b:Tape) (i:Input),w.os=os/\(w.forCall b i).Shaped C.prog/\i.vars=[]/\Input.okWide C.prog (w.forCall b i) .any w.heap.size f i /\
   ((s.pre enc C.prog fn d apart (w.forCall b i).memory i.args/\X (w.forCall b i).memory i.args)/\sizedMet enc C.prog fn (OpenSpec.ofChange s) apart (w.forCall b i).memory i.args)/\a.holds C.prog (lone (Frame.enter C.prog f i.args .normal) [] (w.forCall b i)))(n:∀(W:aA) (base:Nat) (args:Array ah) (ds gs:List (DataW H)) (c:List MemPlace),
   (∀(j:Nat) t v,fn.params[j]?=aa t->args[j]?=aa v->Value.okWide C.prog W .any base t v) ->
   DataW.Whole enc C.prog fn.params.toList s.vars apart W args.toList ds gs c->W.ShapedOpen C.prog->X W args ->
   ∃M last o w' t',runNT C.prog (M+1) (Conc.solo (Conc.G (Frame.enter C.prog f args .normal) []) W) #[]=(.ended o w',t')/\runN C.prog M (Conc.solo (Conc.G (Frame.enter C.prog f args .normal) []) W)=.next last /\
    step C.prog last=.ended o w'/\Conc.Good C.prog (λv F=>s.post enc C.prog fn apart fresh handsOn again W args v F) last o w' t'):
  ReturnsInLeavingWide a C os f .any (λw args=>(s.pre enc C.prog fn d apart w args/\X w args)/\sizedMet enc C.prog fn (OpenSpec.ofChange s) apart w args) (s.post enc C.prog fn apart fresh handsOn again):=by refine returnsInLeavingWide_of_good own h g ?_;intro w b i _ x _ y m p;obtain⟨_,_,_,u,k,_,_,_,_,l⟩:=y;have e:u=fn:=rN (k.symm.trans r);subst e;obtain⟨⟨⟨ds,gs,c,K,N⟩,B⟩,L⟩:=m;have q:=DataW.Whole.of_heap (w':=w.forCall b i) (by rfl) K;obtain⟨M,last,o,w',t',I,A,z,E⟩:=n (w.forCall b i) w.heap.size i.args ds gs c l q x (D (w.forCall b i).memory (w.forCall b i) i.args rfl B);exact⟨M,last,o,w',t',I,A,z,E.mono λv J=>ChangeSpec.post_blind J⟩
def HZ(l:Looks){p:Pinned}{s:OpenSpec}{c:OpenClaim}(m:List (List PathCond))(kinds:List LaidKind)(a:Bool)(b:Bool×String)(d:Bool)(z:c.holds p s)(n:∀D∈m,(c.withDomain D).holds p s)(y:c.wfByText s=ab)(g:∀D∈m,(c.withDomain D).wfByText s=ab)(e:c.laidByTextAt l p kinds a)(i:c.start=.entering)(k:c.noBlocks=af/\c.again=af)(v:p.checked.prog.mainIs=aa (b.1,b.2.toList))(x:(!b.1&&b.2.isEmpty&&!d)=af)(o:∀f fn,p.checked.prog.funcNamed c.func=aa f->p.checked.prog.funcs[f]?=aa fn->d=p.checked.prog.looks []/\∀(j:Nat) t,fn.params[j]?=aa t->p.checked.prog.wantsStandIn t=af)(w:ab=c.goesBy p.checked.prog):
  Claim7.holds p (.plain s) {stood:={row:=c,standIns:=[],harness:=b,looks:=d},kinds:=[],alts:=m,goes:=ab,laidByText:=ab,laidKinds:=kinds,laidTests:=a,laidLooks:=l}:=by
 have q:∀r:OpenClaim,Claim7.isSixth {stood:={row:=r,standIns:=[],harness:=b,looks:=d},kinds:=[]}=af:=λr=>by simpa[Claim7.isSixth]using x
 refine⟨Claim7.tied_new_at l kinds a (Claim7.new_of_sixth z b d i k v (q c) o) y,λD u=>?_,e,(λh=>by cases h),w⟩;exact Claim7.tied_new_at l kinds a (Claim7.new_of_sixth (n D u) b d i k v (q _) o) (g D u)
end
end Go.AM
namespace Go.AM.R1
section
variable {X:Cx ag}
def Zn:dt:=λargs σ=>match args,σ with
 |[.e (.one (.c (.str b)))],[]=>aa (dB (dD b),[],[])
 |_,_=>ae
def t50:ef X 50 Zn:=by intro args σ res σ' obs h _;unfold Zn at h;grind[Io]
def Xn:dt:=λargs σ=>match args,σ with
 |[.e (.one (.c (.str b)))],[]=>aa (dB (eg b),[],[])
 |_,_=>ae
def t51:ef X 51 Xn:=by intro args σ res σ' obs h _;unfold Xn at h;grind[Ip]
def Zo:dt:=λargs σ=>match args,σ with
 |[.e (.one (.c (.str a))),.e (.one (.c (.str b)))],[]=>aa (dB (clash a b),[],[a≠[],b≠[]])
 |_,_=>ae
def t52:ef X 52 Zo:=by
 intro args σ res σ' obs h a;unfold Zo at h;split at h
 .cases h;exact LN _ _ a.1 a.2
 grind
def ct2:List (Nat×dt):=(50,Zn)::(51,Xn)::(52,Zo)::ct1
def tT:bE X ct2:=bE.cons t50 (bE.cons t51 (bE.cons t52 CY))
def fg(t:List bx)(i:Nat):Bs:=(t.getD i ([],[])).1
def sZ(t:List bx)(i:Nat):Bs:=(t.getD i ([],[])).2
def gJ(t:List bx)(i:Nat):(t.getD i cF.b5).1=fg t i:=rfl
def pJ(t:List bx)(i:Nat):(t.getD i cF.b5).2=sZ t i:=rfl
def gI(t:List bx)(i:Nat):Bool:=dD (fg t i)&&eg (sZ t i)&&(i==0||bk (fg t (i-1)) (fg t i))&&(bg i).all λj=>!clash (fg t j) (fg t i)
def cw(t:List bx):Bool:=(bg t.length).all (gI t)&&decide (t.length<=6)
def dz{n:Nat}{p:Nat->Bool}:(bg n).all p=ab↔∀i,i<n->p i=ab:=by grind
def qy{s:Bs}(h:dD s=ab):s≠[]:=by rintro rfl;simp[dD]at h
def lM{t:List bx}{i:Nat}(hi:i<t.length)(h:gI t i=af):cw t=af:=by
 cases a:cw t with
 |false=>rfl
 |true =>
  simp only[cw,bR]at a;grind
def yV(t:List bx):Ev X 21 [cF.sl t] [] (dB (cw t)) []:=by
 refine Ev.bQ Tryz.func21 rfl λs=>?_;have o:=s.sl 0 rfl;refine cf tT rfl ay ?_;refine AK.wM (λi=>i<=t.length/\∀j,j<i->gI t j=ab) (λi:Nat=>[(0,cF.sl t),(3,dI i)]) (λ_=>[]) (λi=>t.length-i) 0 rfl (by simp[cv]) ⟨by omega,by omega⟩ rfl ?_;rintro i ⟨hi,l⟩;by_cases h:i<t.length
 .by_cases b:dD (fg t i)=ab
  .by_cases d:eg (sZ t i)=ab
   .by_cases m:i=0∨bk (fg t (i-1)) (fg t i)=ab
    .apply AK.join [(0,cF.sl t),(3,dI i),(4,dI 0)] []
     .intro hk;by_cases f:i=0
      .refine aW tT [(8,ab),(16,ab),(24,ab),(29,af)] rfl ?_ (hk _ _ rfl ?_)
       .simp[-aq,h,gJ,pJ,b,d];omega
       .simp[cv]
      .have g:=m.resolve_left f;have c:bA .i64 ((i:Int)-1):=by simp only[bA];omega
       have n:((i:Int)-1).toNat=i-1:=by omega
       refine aW tT [(8,ab),(16,ab),(24,ab),(29,ab),(42,af)] rfl ?_ (hk _ _ rfl ?_)
       .simp[-aq,h,gJ,pJ,b,d,g,c,n];omega
       .simp[cv]
     ·
      have r:gI t i=(bg i).all (λj=>!clash (fg t j) (fg t i)):=by
       rcases m with rfl|g
       .simp[gI,b,d]
       .simp[gI,b,d,g]
      refine AK.wM (λj=>j<=i/\∀p,p<j->clash (fg t p) (fg t i)=af) (λj:Nat=>[(0,cF.sl t),(3,dI i),(4,dI j)]) (λ_=>[]) (λj=>i-j) 0 rfl (by simp[cv]) ⟨by omega,by omega⟩ rfl ?_;rintro j ⟨v,u⟩;by_cases a:j<i
      .have k:dD (fg t j)=ab:=by have:=l j a;simp only[gI,bR]at this;exact this.1.1.1
       cases q:clash (fg t j) (fg t i)with
       |true =>
        refine aW tT [(47,ab),(60,ab)] rfl ?_ (AK.iD (AK.sr (cp.zero rfl ?_)))
        .simp[-aq,h,a,gJ,q,qy b,qy k];omega
        .have:gI t i=af:=by grind
         simp[lM h this]
       |false =>
        refine aW tT [(47,ab),(60,af)] rfl ?_ (AK.again (j+1) rfl ?_ ?_ ?_ rfl)
        .simp[-aq,h,a,gJ,q,qy b,qy k,bA];omega
        .simp[cv]
        .grind
        .omega
      .have a:j=i:=by omega
       subst a;refine aW tT [(47,af)] rfl (by simp) (AK.leave rfl rfl ?_);refine cf tT rfl ?_ (AK.again (j+1) rfl ?_ ?_ ?_ rfl)
       .simp[bA];omega
       .simp[cv]
       .grind
       .omega
    .have f:i≠0:=λe=>m (.inl e);have g:bk (fg t (i-1)) (fg t i)=af:=by grind
     have c:bA .i64 ((i:Int)-1):=by simp only[bA];omega
     have n:((i:Int)-1).toNat=i-1:=by omega
     refine aW tT [(8,ab),(16,ab),(24,ab),(29,ab),(42,ab)] rfl ?_ (AK.iD (cp.zero rfl ?_))
     .simp[-aq,h,gJ,pJ,b,d,g,c,n];omega
     .simp[az,lM h (by simp[gI,f,g])]
   .refine aW tT [(8,ab),(16,ab),(24,af)] rfl ?_ (AK.iD (cp.zero rfl ?_))
    .simp[-aq,h,gJ,pJ,b,d]
    .simp[az,lM h (by simp[gI,d])]
  .refine aW tT [(8,ab),(16,af)] rfl ?_ (AK.iD (cp.zero rfl ?_))
   .simp[-aq,h,gJ,b]
   .simp[az,lM h (by simp[gI,b])]
 .refine aW tT [(8,af)] rfl (by simp;omega) (AK.leave rfl rfl ?_);refine cf tT rfl ay (AK.bw rfl ?_);simp only[az,cw];grind
end
def dl(s:Bs)(i:Nat):Int:=(cK s i-97) % 256
def jw(t:Bs)(e:Nat):Bool:=(dl t (e-1)+2*dl t (e-2)+3*dl t (e-3)) % 5==0
def tH(t:Bs)(f:Nat):Nat->Nat
 |0=>min (f+8) t.length
 |k+1=>if t.length<=f+(7-k)then t.length else if jw t (f+(7-k))then f+(7-k)else tH t f k
def cutAt(t:Bs)(f:Nat):Nat:=tH t f 5
def GJ(t:Bs)(f:Nat)(a:f<t.length):∀k,k<=5->f<tH t f k/\tH t f k<=t.length/\tH t f k<=f+8
 |0,_=>by simp only[tH];omega
 |k+1,hk=>by
  simp only[tH];split
  .omega
  .split
   .omega
   .exact GJ t f a k (by omega)
theorem nD(t:Bs)(f:Nat)(a:f<t.length):f<cutAt t f/\cutAt t f<=t.length/\cutAt t f<=f+8:=GJ t f a 5 (by omega)
def mM(t:Bs):Nat->Nat->List Nat
 |0,_=>[]
 |k+1,f=>if f<t.length then cutAt t f::mM t k (cutAt t f)else[]
def AG(t:Bs):List Nat:=mM t t.length 0
def fj(t:Bs):Nat->Nat->List Bs
 |0,_=>[]
 |k+1,f=>if f<t.length then(t.drop f).take (cutAt t f-f)::fj t k (cutAt t f)else[]
def pieces(t:Bs):List Bs:=fj t t.length 0
def gv(l:List Bs):Option Bs:=if eg l.flatten&&(pieces l.flatten==l)then aa l.flatten else ae
def bz(p:Bs):Bool:=decide (1<=p.length)&&decide (p.length<=8)&&b6 p
def codeOf(p:Bs):Int:=p.foldl (λn b=>27*n+((b.toNat:Int)-97) % 256+1) 0
def cd(k:Int):Bool:=decide (1<=k)&&decide (k<=99)
def en(k:Int)(p:Bs):Int:=(codeOf p*(2*k+1)+k*7919) % 999999999989
def cG(n:Nat):Nat:=if n<1∨8<n then 0 else if n<=2 then 2 else if n<=4 then 4 else 8
def eO(p:Bs):Bs:=if bz p then p++List.replicate (cG p.length-p.length) 46 else[]
def strip(b:Bs):Bs:=(b.reverse.dropWhile (·==46)).reverse
def eQ(b:Bs):Option Bs:=if bz (strip b)&&(eO (strip b)==b)then aa (strip b)else ae
abbrev bn:=Int×Bs
abbrev bG:=Int×List bn
def right(k:Int)(x:bn):Bool:=match eQ x.2 with|some p=>en k p==x.1|none=>af
def Aw(l:List Int):Bool:=(bg l.length).all λi=>i==0||decide (l.getD (i-1) 0<l.getD i 0)
def gg(k:Int)(p:bG):Bool :=
 decide (1<=p.1)&&decide (p.1<=99)&&cd k&&decide (1<=p.2.length)&&decide (p.2.length<=4)&&p.2.all (right k)&&Aw (p.2.map (·.1))
def chunk(k:Int)(x:bn):Option Bs:=match eQ x.2 with|some p=>if cd k&&(en k p==x.1)then aa p else ae|none=>ae
def ei(k:Int)(p:bG)(n:Int):Option Bs:=match p.2.find? (λx=>x.1==n)with|some x=>chunk k x|none=>ae
def gG(l:List bn)(x:bn):List bn:=match l with
 |[]=>[x]
 |y::r=>if x.1<y.1 then x::y::r else y::gG r x
def gH(no k:Int)(ps:List Bs):bG:=(no,ps.foldl (λl p=>gG l (en k p,eO p)) [])
abbrev cn:=Int×Int
def eF(s:cn):Bool:=decide (0<=s.1)&&decide (s.1<999999999989)&&decide (1<=s.2)&&decide (s.2<=99)
def gq(l:List cn)(s:cn):List cn:=match l with
 |[]=>[s]
 |y::r=>if y.1<s.1 then y::gq r s else s::(y::r).filter (λz=>!(z.1==s.1))
def mJ(l:List cn)(n:Int):Int:=match l.find? (λs=>s.1==n)with|some s=>s.2|none=>0
def cW(l:List bG):List cn:=l.flatMap λp=>p.2.map λx=>(x.1,p.1)
def indexOf(l:List bG):List cn:=if(cW l).all eF then(cW l).foldl gq []else[]
abbrev jU:=Bs×List Int
abbrev gE:=Int×List jU
def oJ(k:Int)(f:bx):jU:=(f.1,(pieces f.2).map (en k))
def fp(no k:Int)(t:List bx):gE:=(no,t.map (oJ k))
def iF(k:Int)(l:List cn)(out:List Bs)(p:Bs):List Bs:=if mJ l (en k p)==0&&!out.contains p then out++[p]else out
def c6(k:Int)(t:List bx)(l:List cn):List Bs:=(t.flatMap λf=>pieces f.2).foldl (iF k l) []
def dK(k:Int)(ps:List bG)(n:Int):Option Bs:=ps.findSome? λp=>ei k p n
def gO{p:Bs}(h:b6 p=ab):∀b∈p,97<=b.toNat/\b.toNat<=122:=by intro b a;have:=List.all_eq_true.1 h b a;simpa[eP]using this
def xb:∀(p:Bs) (n m:Int)(k:Nat),(∀b∈p,97<=b.toNat/\b.toNat<=122)->0<=n->n<m->1<=m ->
  0<=p.foldl (λn b=>27*n+((b.toNat:Int)-97) % 256+1) n/\p.foldl (λn b=>27*n+((b.toNat:Int)-97) % 256+1) n<m*27 ^ p.length
 |[],n,m,_,_,d,c,_=>by grind
 |b::p,n,m,k,a,d,c,f=>by obtain⟨e,q2⟩:=a b (by simp);have:=xb p (27*n+((b.toNat:Int)-97) % 256+1) (m*27) k (λx g=>a x (by grind)) (by omega) (by omega) (by omega);grind[Int.mul_assoc]
def Qk:∀{n:Nat},n<=8->(27:Int) ^ n<=282429536481:=by
 intro n a
 match n,a with
 |0,_|1,_|2,_|3,_|4,_|5,_|6,_|7,_|8,_=>decide
def qq{p:Bs}(h:bz p=ab):0<=codeOf p/\codeOf p<282429536481:=by simp only[bz,bR,ba]at h;obtain⟨a,q2⟩:=xb p 0 1 0 (gO h.2) (by omega) (by omega) (by omega);have:=Qk h.1.2;rw[Int.one_mul]at q2;exact⟨a,Int.lt_of_lt_of_le q2 this⟩
def cop:∀d:Fin 200,d.val≠0->Nat.gcd 999999999989 d.val=1:=by decide +kernel
def S1{a:Nat}{P c d:Int}(f:P=(a:Int))(h:P ∣ c*d)(g:0<c)(k:c<P)(b:Nat.gcd a d.natAbs=1):False:=by
 subst f;have e:a ∣ c.natAbs*d.natAbs:=by have:=Int.natAbs_dvd_natAbs.2 h;grind[Int.natAbs_mul,Int.natAbs_natCast]
 have i:a ∣ c.natAbs:=Nat.Coprime.dvd_of_dvd_mul_right b e;have j:=Nat.le_of_dvd (by omega) i;omega
def O0{a b P:Int}(h:a % P=b % P):P ∣ a-b:=Int.dvd_of_emod_eq_zero (by rw[Int.sub_emod,h,Int.sub_self,Int.zero_emod])
def sM(l:Bs):Int:=l.foldr (λb n=>27*n+((b.toNat:Int)-97) % 256+1) 0
def CQ:∀p:Bs,0<=sM p
 |[]=>by simp[sM]
 |b::p=>by have:=CQ p;simp only[sM,List.foldr_cons]at *;omega
def y9:∀{p q:Bs},(∀b∈p,97<=b.toNat/\b.toNat<=122)->(∀b∈q,97<=b.toNat/\b.toNat<=122)->sM p=sM q->p=q
 |[],[],_,_,_=>rfl
 |[],c::q,_,a,h|c::q,[],a,_,h=>by have:=CQ q;simp only[sM,List.foldr_cons,List.foldr_nil]at *;omega
 |b::p,c::q,d,a,h=>by have g:=d b (by simp);have i:=a c (by simp);have f:=y9 (p:=p) (q:=q) (λx e=>d x (by grind)) (λx e=>a x (by grind));simp only[sM,List.foldr_cons]at h f;grind[UInt8.toNat_inj]
def EW{p q:Bs}(c:bz p=ab)(b:bz q=ab)(h:codeOf p=codeOf q):p=q:=by
 have e:∀p,codeOf p=sM p.reverse:=λp=>by simp[codeOf,sM,List.foldr_reverse]
 simp only[bz,bR]at c b;rw[e,e]at h;exact List.reverse_inj.1 (y9 (λx a=>gO c.2 x (List.mem_reverse.1 a)) (λx a=>gO b.2 x (List.mem_reverse.1 a)) h)
def Ik{k:Int}(hk:cd k=ab){p q:Bs}(e:bz p=ab)(c:bz q=ab)(h:en k p=en k q):p=q:=by
 refine EW e c ?_;simp only[cd,bR,ba]at hk;obtain⟨d,c1⟩:=qq e;obtain⟨f,d1⟩:=qq c;have key:∀x y:Int,0<=x->0<=y->x<282429536481->x>y->(x*(2*k+1)+k*7919) % 999999999989=(y*(2*k+1)+k*7919) % 999999999989->False:=by
  intro x y m l j i h;have b:=O0 h;rw[show(x*(2*k+1)+k*7919)-(y*(2*k+1)+k*7919)=(x-y)*(2*k+1) by grind]at b;have g:(2*k+1).natAbs<200:=by omega
  exact S1 (a:=999999999989) rfl b (by omega) (by omega) (cop ⟨_,g⟩ (by grind))
 rcases Int.lt_trichotomy (codeOf p) (codeOf q)with b|b|b
 .exact(key _ _ f d d1 b h.symm).elim
 .exact b
 .exact(key _ _ d f c1 b h).elim
theorem Il{p:Bs}(h:b6 p=ab)(n:Nat):strip (p++List.replicate n 46)=p:=by
 have e:∀n,List.dropWhile (·==46) ((List.replicate n (46:UInt8))++p.reverse)=p.reverse:=by
  intro n;induction n with
  |zero =>
   simp only[List.replicate_zero,mn];cases f:p.reverse with
   |nil=>rfl
   |cons b r =>
    have c:b∈p:=List.mem_reverse.1 (by grind);have:=gO h b c;have a:(b==46)=af:=by simp only[eD];rintro rfl;grind
    simp[a]
  |succ n d=>simpa[List.replicate_succ]using d
 unfold strip;grind
def CR{p:Bs}(h:bz p=ab):eQ (eO p)=aa p:=by
 have a:b6 p=ab:=by simp only[bz,bR]at h;exact h.2
 have e:eO p=p++List.replicate (cG p.length-p.length) 46:=by simp[eO,h]
 have s:strip (eO p)=p:=by grind[Il]
 simp[eQ,s,h]
def mm(l:List bn)(i j:Nat):List bn:=(l.set i (l.getD j (0,[]))).set j (l.getD i (0,[]))
def nG(l:List bn)(i j:Nat):Bool:=decide ((l.getD i (0,[])).1<(l.getD j (0,[])).1)
def x0:Nat->List bn->Nat->List bn
  | 0,l,_=>l
  | f+1,l,j=>if(j-1) / 2=j then l else if nG l j ((j-1) / 2)=ab then x0 f (mm l ((j-1) / 2) j) ((j-1) / 2)else l
def nH(l:List bn)(i n:Nat):Nat:=if 2*i+2<n/\nG l (2*i+2) (2*i+1)=ab then 2*i+2 else 2*i+1
def gF:Nat->List bn->Nat->Nat->List bn
  | 0,l,_,_=>l
  | f+1,l,i,n=>if n<=2*i+1 then l else if nG l (nH l i n) i=ab then gF f (mm l i (nH l i n)) (nH l i n) n else l
def gQ(l:List bn)(x:bn):List bn:=x0 (l.length+1) (l++[x]) l.length
def kt(l:List bn):List bn:=gF l.length (mm l 0 (l.length-1)) 0 (l.length-1)
def lE:Nat->List bn->List bn
  | 0,_=>[]
  | f+1,l=>if l.length=0 then[]else(kt l).getD (l.length-1) (0,[])::lE f ((kt l).take (l.length-1))
def mK(l:List bn):List bn:=lE l.length (l.foldl gQ [])
theorem fS(l:List bn)(i j:Nat):(mm l i j).length=l.length:=by simp[mm]
def Gs:∀f l j,(x0 f l j).length=l.length
  | 0,_,_=>rfl
  | f+1,l,j=>by unfold x0;split;rfl;split;rw[Gs f,fS];rfl
def yS:∀f l i n,(gF f l i n).length=l.length
  | 0,_,_,_=>rfl
  | f+1,l,i,n=>by unfold gF;split;rfl;split;rw[yS f,fS];rfl
def yT(l:List bn)(x:bn):(gQ l x).length=l.length+1:=by simp[gQ,Gs]
theorem Cv(l:List bn):(kt l).length=l.length:=by simp[kt,yS,fS]
def OI{l:List bn}{i j:Nat}(hi:i<l.length)(a:j<l.length){x:bn}:x∈mm l i j->x∈l:=by intro h;unfold mm at h;grind
def Gt(x:bn):gQ [] x=[x]:=by simp[gQ,x0]
def K6(a x:bn):gQ [a] x=if x.1<a.1 then[x,a]else[a,x]:=by simp[gQ,x0,nG,mm]
def Qu(a b x:bn):gQ [a,b] x=if x.1<a.1 then[x,b,a]else[a,b,x]:=by simp[gQ,x0,nG,mm]
def VE(a b c x:bn):gQ [a,b,c] x=if x.1<b.1 then(if x.1<a.1 then[x,a,c,b]else[a,x,c,b])else[a,b,c,x]:=by simp[gQ,x0,nG,mm]
def tK(f:Nat){l r:List bn}{x:bn}{n:Nat}(a:l.length=n+1)(h:kt l=r++[x])(b:r.length=n):lE (f+1) l=x::lE f r:=by rw[lE,aZ (by omega),h];grind
def Qv(a:bn):lE 1 [a]=[a]:=by simp[lE,kt,gF,mm]
def Qw(a b:bn):lE 2 [a,b]=[a,b]:=by rw[tK 1 (r:=[b]) (x:=a) (n:=1) rfl (by simp[kt,gF,mm]) rfl,Qv]
def Qx(a b c:bn):lE 3 [a,b,c]=if b.1<c.1 then[a,b,c]else[a,c,b]:=by rw[tK 2 (r:=if b.1<c.1 then[b,c]else[c,b]) (x:=a) (n:=2) rfl (by simp[kt,gF,mm,nH,nG];split<;>rfl) (by split<;>rfl)];split<;>rw[Qw]
def VF(a b c d:bn):lE 4 [a,b,c,d]=a::lE 3 (if c.1<b.1 then(if c.1<d.1 then[c,b,d]else[d,b,c])else if b.1<d.1 then[b,d,c]else[d,b,c]):=by rw[tK 3 (r:=if c.1<b.1 then(if c.1<d.1 then[c,b,d]else[d,b,c])else if b.1<d.1 then[b,d,c]else[d,b,c]) (x:=a) (n:=3) rfl ?_ (by split<;>split<;>rfl)];by_cases g:c.1<b.1<;>by_cases f:c.1<d.1<;>by_cases e:b.1<d.1<;>simp[kt,gF,mm,nH,nG,g,f,e]
theorem K7(l:List bn)(h:l.length<=4)(e:l.Pairwise λa b=>a.1≠b.1):mK l=l.foldl gG []:=by
  match l,h with
  | [],_=>rfl
  | [a],_=>simp[mK,Gt,Qv,gG]
  | [a,b],_ =>
    simp at e;simp only[mK,List.foldl,Gt,K6,gG,eU,gx];split<;>simp[Qw]
  | [a,b,c],_ =>
    simp at e;obtain⟨⟨s,r⟩,m⟩:=e;simp only[mK,List.foldl,Gt,K6,gG,eU,gx];by_cases g:b.1<a.1<;>by_cases q2:c.1<a.1<;>by_cases i:c.1<b.1<;>first|omega |
      (have j:(a.1<b.1)=¬(b.1<a.1):=by grind
       have k:(a.1<c.1)=¬(c.1<a.1):=by grind
       have f:(b.1<c.1)=¬(c.1<b.1):=by grind
       simp[g,q2,i,j,k,f,Qu,Qx,gG])
  | [a,b,c,d],_ =>
    simp at e;obtain⟨⟨s,r,m⟩,⟨u,w⟩,v⟩:=e;simp only[mK,List.foldl,Gt,K6,gG,eU,gx];by_cases g:b.1<a.1<;>by_cases q2:c.1<a.1<;>by_cases i:c.1<b.1<;>by_cases q4:d.1<a.1<;>by_cases t:d.1<b.1<;>by_cases n:d.1<c.1<;>first|omega |
      (have j:(a.1<b.1)=¬(b.1<a.1):=by grind
       have k:(a.1<c.1)=¬(c.1<a.1):=by grind
       have f:(b.1<c.1)=¬(c.1<b.1):=by grind
       have o:(a.1<d.1)=¬(d.1<a.1):=by grind
       have q:(b.1<d.1)=¬(d.1<b.1):=by grind
       have p:(c.1<d.1)=¬(d.1<c.1):=by grind
       simp[g,q2,i,q4,t,n,j,k,f,o,q,p,Qu,VE,VF,Qx,gG])
section
open Go.Proofs Go.Conc.Lib
def Qn:WgLink:={add:=166,done:=168,wait:=170,relMerge:=188,disable:=189,enable:=190,inBubble:=191,associate:=192,fatal:=193,uOr:=194,uAdd:=195,raceRead:=196,uLoad:=197,uStore:=198,disassociate:=199,semrelease:=200,acquire:=202,isAssociated:=203,uCas:=204,raceWrite:=205,semacquire:=206,orU64:=220,addU64:=221,loadU64:=222,storeU64:=223,casU64:=226,tWgP:=260,tUP:=120,tAssoc:=262,tWg:=238,tAU:=236,tU64:=229,tUint:=200,tU32:=227,tPU32:=266,tPAU:=288,tPU64:=290,tNoCopy:=232,tANoCopy:=233,tAlign64:=234}
def Cp:WgLib ag Qn where
 f_add:=Tryz.func166.trans (dA aa (by kernel_rfl))
 f_done:=Tryz.func168.trans (dA aa (by kernel_rfl))
 f_wait:=Tryz.func170.trans (dA aa (by kernel_rfl))
 f_relMerge:=Tryz.func188.trans (dA aa (by kernel_rfl))
 f_disable:=Tryz.func189.trans (dA aa (by kernel_rfl))
 f_enable:=Tryz.func190.trans (dA aa (by kernel_rfl))
 f_inBubble:=Tryz.func191.trans (dA aa (by kernel_rfl))
 f_associate:=Tryz.func192.trans (dA aa (by kernel_rfl))
 f_fatal:=Tryz.func193.trans (dA aa (by kernel_rfl))
 f_uOr:=Tryz.func194.trans (dA aa (by kernel_rfl))
 f_uAdd:=Tryz.func195.trans (dA aa (by kernel_rfl))
 f_raceRead:=Tryz.func196.trans (dA aa (by kernel_rfl))
 f_uLoad:=Tryz.func197.trans (dA aa (by kernel_rfl))
 f_uStore:=Tryz.func198.trans (dA aa (by kernel_rfl))
 f_disassociate:=Tryz.func199.trans (dA aa (by kernel_rfl))
 f_semrelease:=Tryz.func200.trans (dA aa (by kernel_rfl))
 f_acquire:=Tryz.func202.trans (dA aa (by kernel_rfl))
 f_isAssociated:=Tryz.func203.trans (dA aa (by kernel_rfl))
 f_uCas:=Tryz.func204.trans (dA aa (by kernel_rfl))
 f_raceWrite:=Tryz.func205.trans (dA aa (by kernel_rfl))
 f_semacquire:=Tryz.func206.trans (dA aa (by kernel_rfl))
 f_orU64:=Tryz.func220.trans (dA aa (by kernel_rfl))
 f_addU64:=Tryz.func221.trans (dA aa (by kernel_rfl))
 f_loadU64:=Tryz.func222.trans (dA aa (by kernel_rfl))
 f_storeU64:=Tryz.func223.trans (dA aa (by kernel_rfl))
 f_casU64:=Tryz.func226.trans (dA aa (by kernel_rfl))
 underlying_tWgP:=Tryz.underlying260
 runUnderlying_tWgP:=Tryz.runUnderlying260
 sizeOf_tWgP:=Tryz.sizeOf260
 isAgg_tWgP:=Tryz.isAgg260
 zeroValue_tWgP:=Tryz.zeroValue260
 underlying_tUP:=Tryz.underlying120
 runUnderlying_tUP:=Tryz.runUnderlying120
 sizeOf_tUP:=Tryz.sizeOf120
 isAgg_tUP:=Tryz.isAgg120
 zeroValue_tUP:=Tryz.zeroValue120
 underlying_tI32:=Tryz.underlying262
 runUnderlying_tI32:=Tryz.runUnderlying262
 sizeOf_tI32:=Tryz.sizeOf262
 isAgg_tI32:=Tryz.isAgg262
 zeroValue_tI32:=Tryz.zeroValue262
 underlying_tWg:=Tryz.underlying238
 runUnderlying_tWg:=Tryz.runUnderlying238
 sizeOf_tWg:=Tryz.sizeOf238
 isAgg_tWg:=Tryz.isAgg238
 zeroValue_tWg:=Tryz.zeroValue238
 underlying_tAU:=Tryz.underlying236
 runUnderlying_tAU:=Tryz.runUnderlying236
 sizeOf_tAU:=Tryz.sizeOf236
 isAgg_tAU:=Tryz.isAgg236
 zeroValue_tAU:=Tryz.zeroValue236
 underlying_tU64:=Tryz.underlying229
 runUnderlying_tU64:=Tryz.runUnderlying229
 sizeOf_tU64:=Tryz.sizeOf229
 isAgg_tU64:=Tryz.isAgg229
 zeroValue_tU64:=Tryz.zeroValue229
 underlying_tSh:=Tryz.underlying200
 runUnderlying_tSh:=Tryz.runUnderlying200
 sizeOf_tSh:=Tryz.sizeOf200
 isAgg_tSh:=Tryz.isAgg200
 zeroValue_tSh:=Tryz.zeroValue200
 underlying_tU32:=Tryz.underlying227
 runUnderlying_tU32:=Tryz.runUnderlying227
 sizeOf_tU32:=Tryz.sizeOf227
 isAgg_tU32:=Tryz.isAgg227
 zeroValue_tU32:=Tryz.zeroValue227
 underlying_tPU32:=Tryz.underlying266
 runUnderlying_tPU32:=Tryz.runUnderlying266
 sizeOf_tPU32:=Tryz.sizeOf266
 isAgg_tPU32:=Tryz.isAgg266
 zeroValue_tPU32:=Tryz.zeroValue266
 underlying_tPAU:=Tryz.underlying288
 runUnderlying_tPAU:=Tryz.runUnderlying288
 sizeOf_tPAU:=Tryz.sizeOf288
 isAgg_tPAU:=Tryz.isAgg288
 zeroValue_tPAU:=Tryz.zeroValue288
 underlying_tPU64:=Tryz.underlying290
 runUnderlying_tPU64:=Tryz.runUnderlying290
 sizeOf_tPU64:=Tryz.sizeOf290
 isAgg_tPU64:=Tryz.isAgg290
 zeroValue_tPU64:=Tryz.zeroValue290
 underlying_t0:=Tryz.underlying0
 runUnderlying_t0:=Tryz.runUnderlying0
 sizeOf_t0:=Tryz.sizeOf0
 isAgg_t0:=Tryz.isAgg0
 zeroValue_t0:=Tryz.zeroValue0
 underlying_t3:=Tryz.underlying3
 runUnderlying_t3:=Tryz.runUnderlying3
 sizeOf_t3:=Tryz.sizeOf3
 isAgg_t3:=Tryz.isAgg3
 zeroValue_t3:=Tryz.zeroValue3
 underlying_t4:=Tryz.underlying4
 runUnderlying_t4:=Tryz.runUnderlying4
 sizeOf_t4:=Tryz.sizeOf4
 isAgg_t4:=Tryz.isAgg4
 zeroValue_t4:=Tryz.zeroValue4
 underlying_t9:=Tryz.underlying9
 runUnderlying_t9:=Tryz.runUnderlying9
 sizeOf_t9:=Tryz.sizeOf9
 isAgg_t9:=Tryz.isAgg9
 zeroValue_t9:=Tryz.zeroValue9
 underlying_t20:=Tryz.underlying20
 runUnderlying_t20:=Tryz.runUnderlying20
 sizeOf_t20:=Tryz.sizeOf20
 isAgg_t20:=Tryz.isAgg20
 zeroValue_t20:=Tryz.zeroValue20
 underlying_t21:=Tryz.underlying21
 runUnderlying_t21:=Tryz.runUnderlying21
 sizeOf_t21:=Tryz.sizeOf21
 isAgg_t21:=Tryz.isAgg21
 zeroValue_t21:=Tryz.zeroValue21
 room_tWg:=by kernel_rfl
 room_tU32:=by kernel_rfl
end
end Go.AM.R1
namespace Go.AM
def cg.imp{σ:List aP}{s:St}{d a:D}{ds FC:List D}(h:∀v,dk σ s v d->dk σ s v a)(k:∀vs,cg σ s vs ds->cg σ s vs FC):∀vs,cg σ s vs (d::ds)->cg σ s vs (a::FC)
 |[],r=>r.elim
 |v::vs,r=>⟨h v r.1,k vs r.2⟩
abbrev dP(f:bx):D:=.e (.agg [.c (.str f.1),.c (.str f.2)])
abbrev Sg(a:List bx)(b:Bool):D:=.eX [.one (.c (.sl af 2 a.length (cF.fn a))),.one (.c (.bool b))]
namespace R1
variable {X:Cx ag}
def V5:dt:=λargs σ=>match args,σ with
 |[c],[]=>match kX 2 c with
  |none=>ae
  |some (a,b)=>aa (dB (cw (cF.list a b)),[],[cF.fits a b])
 |_,_=>ae
def t21:ef X 21 V5:=by
 intro args σ res σ' obs h b;unfold V5 at h;split at h
 .split at h
  .cases h
  rename_i c d a;cases h;exact(yV _ ).args (λ_ vs=>cg.imp (λ_=>cF.jT a b) (λ_ r=>r) vs)
 grind
def ct3:List (Nat×dt):=(21,V5)::ct2
def Zp:bE X ct3:=bE.cons t21 tT
end R1
def mh.cu{α:Type}(c:mh α)(l:List α)(x:α):cv (l.length+1) (cA l.length (c.fn l) (λi=>[c.enc x].getD i [])) (c.fn (l++[x])):=by intro i hi;unfold cA mh.fn AF;grind
@[simp] theorem cv.same{n:Nat}{f:Nat->List C}:cv n f f:=λ_ _=>rfl
@[simp] theorem cv.nil{f g:Nat->List C}:cv 0 f g:=λi h=>by omega
namespace R1
variable {X:Cx ag}
def mb(t:List bx)(p:Bs):List bx:=t.filter λf=>!(f.1==p)
def E5{t:List bx}{p:Bs}{i:Nat}(h:i<t.length):mb (t.take (i+1)) p=mb (t.take i) p++(if fg t i=p then[]else[(fg t i,sZ t i)]):=by
 have e:t.getD i ([],[])=t[i]:=by grind
 have a:(fg t i,sZ t i)=t[i]:=by simp only[fg,sZ,e]
 rw[ld,br h,a];simp only[mb,List.filter_append,Option.toList_some];grind
theorem Ir(t:List bx)(p:Bs):(mb t p).length<=t.length:=List.length_filter_le _ _
def GO(t:List bx)(p:Bs)(c:t.length<=4000000):Ev X 87 [cF.sl t,dS p] [] (cF.sl (mb t p)) []:=by
 refine Ev.bQ Tryz.func87 rfl λf=>?_;refine bt rfl ay ?_;refine AK.iC 5 76 2 rfl rfl ?_;refine AK.j3 (λi=>i<=t.length) (λi:Nat=>[(0,cF.sl t),(1,dS p),(6,dI i),(5,.e (.one (.vec 0 2 (mb (t.take i) p).length (cF.fn (mb (t.take i) p)))))]) (λi=>[.vec 76 2 (mb (t.take i) p).length (cF.fn (mb (t.take i) p))]) (λi=>t.length-i) 0 rfl ?_ rfl ?_ (by omega) ?_
 .simp[cv,mb]
 .simp[cv,mb]
 intro i hi;by_cases h:i<t.length
 .have a:=E5 (p:=p) h;have d:(mb (t.take i) p).length<=4000000:=by grind[Ir]
  by_cases b:fg t i=p
  .rw[bl b,iQ]at a;refine aX [(11,ab),(20,af)] rfl ?_ (AK.gf (i+1) rfl ?_ rfl ?_ ?_ ?_)
   .simp[-aq,h,gJ,b,bA];omega
   .rw[a];simp[cv]
   .rw[a];simp[cv]
   .omega
   .omega
  .rw[aZ b]at a;refine aX [(11,ab),(20,ab)] rfl ?_ (AK.gf (i+1) rfl ?_ rfl ?_ ?_ ?_)
   .simp[-aq,h,gJ,b,bA,i76];omega
   .rw[a];simp[-aq];exact cF.cu _ (fg t i,sZ t i)
   .rw[a];simp[-aq];exact cF.cu _ (fg t i,sZ t i)
   .omega
   .omega
 .have:i=t.length:=by omega
  subst this;refine aX [(11,af)] rfl (by simp) (AK.leave rfl rfl ?_);refine bt rfl ay (AK.bw rfl ?_);simp[cv]
def Zr:dt:=λargs σ=>match args,σ with
 |[f,.e (.one (.c (.str b)))],[]=>match kX 2 f with
  |none=>ae
  |some (a,d)=>aa (cF.sl (mb (cF.list a d) b),[],[cF.fits a d,((cF.list a d)).length<=4000000])
 |_,_=>ae
def t87:ef X 87 Zr:=by
 intro args σ res σ' obs h a;unfold Zr at h;split at h
 .split at h
  .cases h
  rename_i c d b;cases h;exact(GO _ _ (a.2)).args (λ_ vs=>cg.imp (λ_=>cF.jT b a.1) (cg.imp (λ_ r=>r) (λ_ r=>r)) vs)
 grind
def ct5:List (Nat×dt):=(87,Zr)::ct3
def Zs:bE X ct5:=bE.cons t87 Zp
end R1
def Fits.QG{args:List D}{σ:List aP}(h:Fits args σ)(k:Nat){cs:List A}(hk:args[k]?=aa (.e (.agg cs)))(j:Nat){t:Bool}{q n:Nat}{es:Nat->List C}(hj:cs[j]?=aa (A.c (.sl t q n es))):n<=9223372036854775807:=by obtain⟨s,v,a⟩:=h.at hk;obtain⟨vs,_,h2⟩:=a;obtain⟨u,_,b⟩:=dX.get h2 hj;cases b<;>omega
namespace R1
def iH{n i:Nat}{p:Nat->Bool}(hi:i<n)(h:p i=af):(bg n).all p=af:=by grind
def jW{i:Nat}{p:Nat->Bool}(a:∀j,j<i->p j=ab)(h:p i=ab):∀j,j<i+1->p j=ab:=λj b=>by grind
end R1
def Tr.put(a b:Int):Tr->Tr
 |.nil=>.nd .nil a b .nil
 |.nd l x y r=>if a<x then .nd (l.put a b) x y r else if x<a then .nd l x y (r.put a b)else .nd l a b r
def Tr.list:Tr->List (Int×Int)
 |.nil=>[]
 |.nd l x y r=>l.list++(x,y)::r.list
def Tr.find(n:Int):Tr->Int
 |.nil=>0
 |.nd l x y r=>if n=x then y else if n<x then l.find n else r.find n
namespace R1
theorem LL{l:List cn}{s:cn}(h:∀x∈l,x.1<s.1):gq l s=l++[s]:=by
 induction l with
 |nil=>rfl
 |cons y r a =>
  simp only[gq];grind
def CU{l r:List cn}{s:cn}(h:∀x∈l,x.1<s.1):gq (l++r) s=l++gq r s:=by
 induction l with
 |nil=>rfl
 |cons y l a =>
  simp only[rM,gq];grind
def Im{l r:List cn}{s:cn}(h:∀x∈r,s.1<x.1):gq (l++r) s=gq l s++r:=by
 have e:r.filter (λz=>!(z.1==s.1))=r:=zu.2 λx a=>by grind
 induction l with
 |nil =>
  cases r with
  |nil=>rfl
  |cons y r =>
   have:=h y mU;simp only[mn,gq];grind
 |cons y l b =>
  simp only[rM,gq];grind
abbrev Tr.Ok(t:Tr):Prop:=t.list.Pairwise λx y=>x.1<y.1
theorem xK{a b:Int}:∀{t:Tr},Tr.Ok t->(t.put a b).list=gq t.list (a,b)
 |.nil,_=>rfl
 |.nd l x y r,h=>by
  obtain⟨k,j,g⟩:=u5.1 h;have i:=jk.1 j;have f:∀z∈l.list,z.1<x:=λz c=>g z c (x,y) mU;simp only[Tr.put,Tr.list];split
  .rename_i d;simp only[Tr.list];rw[xK (t:=l) k,Im (r:=(x,y)::r.list)];grind
  split
  .rename_i _ d;simp only[Tr.list];rw[xK (t:=r) i.2,CU (l:=l.list) λz c=>by grind];simp only[gq];grind
  .have e:a=x:=by omega
   subst e;simp only[Tr.list];rw[CU (l:=l.list) λz c=>f z c];simp only[gq];rw[aZ (by simp),List.filter_cons,aZ (by simp),zu.2 λz c=>by grind]
theorem O1{l:List cn}{s:cn}(h:l.Pairwise λx y=>x.1<y.1):(gq l s).Pairwise (λx y=>x.1<y.1)/\∀z∈gq l s,z=s∨z∈l:=by
 induction l with
 |nil=>simp[gq]
 |cons y r b =>
  obtain⟨d,a⟩:=jk.1 h;obtain⟨c,i2⟩:=b a;simp only[gq];grind[List.pairwise_cons]
def tS{n:Int}:∀{t:Tr},Tr.Ok t->t.find n=mJ t.list n
 |.nil,_=>rfl
 |.nd l x y r,h=>by obtain⟨e,d,a⟩:=u5.1 h;have b:=jk.1 d;have g:∀z∈l.list,z.1<x:=λz c=>a z c (x,y) mU;simp only[Tr.find,Tr.list];have f:=tS (n:=n) (t:=l) e;have i2:=tS (n:=n) (t:=r) b.2;unfold mJ at *;grind
end R1
end Go.AM
namespace Go.AM.R1
section
variable {X:Cx ag}
def rA(f:bx)(acc:List bx×Bool)(g:Bs):List bx×Bool:=if acc.2=ab then acc else if bk g f.1=ab then acc else(acc.1++[f],ab)
def O6(f:bx)(a:List bx×Bool)(g:bx):List bx×Bool:=if g.1=f.1 then a else(a.1++[g],a.2)
def oA(f:bx)(acc:List bx×Bool)(g:bx):List bx×Bool:=O6 f (rA f acc g.1) g
def lu(f:bx)(t:List bx):List bx×Bool:=t.foldl (oA f) ([],af)
def sR(t:List bx)(f:bx):List bx:=if(lu f t).2=ab then(lu f t).1 else(lu f t).1++[f]
theorem fileAt{t:List bx}{i:Nat}(h:i<t.length):t[i]=(fg t i,sZ t i):=by
 have e:t.getD i ([],[])=t[i]:=by grind
 simp only[fg,sZ,e]
def C2{f:bx}{t:List bx}{i:Nat}(h:i<t.length):lu f (t.take (i+1))=oA f (lu f (t.take i)) (fg t i,sZ t i):=by rw[ld,br h,fileAt h];simp[lu]
def C3(f:bx)(acc:List bx×Bool)(g:Bs):(rA f acc g).1.length<=acc.1.length+1:=by unfold rA;grind
def LU(f:bx)(acc:List bx×Bool)(g:bx):(O6 f acc g).1.length<=acc.1.length+1:=by unfold O6;grind
def xL(f:bx):∀(t:List bx)(acc:List bx×Bool),(t.foldl (oA f) acc).1.length<=acc.1.length+2*t.length
 |[],acc=>by simp
 |g::r,acc=>by
  have c:=xL f r (oA f acc g);have b:=C3 f acc g.1;have a:=LU f (rA f acc g.1) g;simp only[lh,eU];have:(oA f acc g).1.length<=acc.1.length+2:=by unfold oA;omega
  omega
abbrev dV(l:Nat)(t:List bx):D:=.e (.one (.vec l 2 t.length (cF.fn t)))
abbrev bV(t:List bx):aP:=.vec 76 2 t.length (cF.fn t)
def O7(t:List bx)(f:bx)(r:t.length<=4000000):Ev X 88 [cF.sl t,dP f] [] (dV 0 (sR t f)) [bV (sR t f)]:=by
 refine Ev.bQ Tryz.func88 rfl λs=>?_;refine bt rfl ay ?_;refine AK.iC 5 76 2 rfl rfl ?_;let A:Nat->List bx×Bool:=λi=>lu f (t.take i);have d:∀i,i<=t.length->(A i).1.length<=8000000:=by intro i hi;have:=xL f (t.take i) ([],af);simp at this;show(lu f (t.take i)).1.length<=_;unfold lu;omega
 refine AK.j3 (λi=>i<=t.length) (λi:Nat=>[(0,cF.sl t),(3,.e (.one (.ptr 0 0))),(7,dI i),(5,dV 1 (A i).1),(6,dB (A i).2)]) (λi=>[.cells 76 [.c (.str f.1),.c (.str f.2)],bV (A i).1]) (λi=>t.length-i) 0 rfl ?_ rfl ?_ (by omega) ?_
 .simp[cv,A,lu]
 .simp[cv,A,lu]
 intro i hi;by_cases h:i<t.length
 .have q:A (i+1)=oA f (A i) (fg t i,sZ t i):=C2 h;have o:=d i hi;generalize A i=acc at *;have p:=C3 f acc (fg t i);apply AK.join [(0,cF.sl t),(3,.e (.one (.ptr 0 0))),(7,dI i),(5,dV 1 (rA f acc (fg t i)).1),(6,dB (rA f acc (fg t i)).2)] [.cells 76 [.c (.str f.1),.c (.str f.2)],bV (rA f acc (fg t i)).1]
  .intro hk;cases b:acc.2 with
   |true =>
    have k:rA f acc (fg t i)=acc:=by unfold rA;grind
    rw[k]at hk;refine bH [(12,ab),(15,ab),(1000009,ab)] rfl ?_ (hk _ _ rfl ?_)
    .simp[h]
    .simp[b]
   |false =>
    cases l:bk (fg t i) f.1 with
    |true =>
     have k:rA f acc (fg t i)=acc:=by unfold rA;grind
     rw[k]at hk;refine bH [(12,ab),(15,af),(25,af),(1000009,ab)] rfl ?_ (hk _ _ rfl ?_)
     .simp[-aq,h,gJ,l]
     .simp[b]
    |false =>
     have k:rA f acc (fg t i)=(acc.1++[f],ab):=by unfold rA;grind
     rw[k]at hk;refine bH [(12,ab),(15,af),(25,ab),(1000009,ab)] rfl ?_ (AK.norm _ rfl ?_ (hk _ _ rfl ?_))
     .simp[-aq,h,gJ,l,i76];omega
     .simp[-aq];exact cF.cu _ f
     .simp[-aq];exact cF.cu _ f
  .have j:A (i+1)=O6 f (rA f acc (fg t i)) (fg t i,sZ t i):=q;generalize rA f acc (fg t i)=a1 at *;by_cases m:fg t i=f.1
   .have a:A (i+1)=a1:=by rw[j];exact bl m
    refine bH [(38,af)] rfl ?_ (AK.gf (i+1) rfl ?_ rfl ?_ ?_ ?_)
    .simp[-aq,h,gJ,m,bA];omega
    .rw[a];simp
    .rw[a];simp
    .omega
    .omega
   .have a:A (i+1)=(a1.1++[(fg t i,sZ t i)],a1.2):=by rw[j];exact aZ m
    refine bH [(38,ab)] rfl ?_ (AK.gf (i+1) rfl ?_ rfl ?_ ?_ ?_)
    .simp[-aq,h,gJ,m,bA,i76];omega
    .rw[a];simp[-aq];exact cF.cu _ (fg t i,sZ t i)
    .rw[a];simp[-aq];exact cF.cu _ (fg t i,sZ t i)
    .omega
    .omega
 .have:i=t.length:=by omega
  subst this;have n:A t.length=lu f t:=by grind
  have o:=d t.length (bh _);refine aX [(12,af)] rfl (by simp) (AK.leave rfl rfl ?_);have g:sR t f=if(A t.length).2=ab then(A t.length).1 else(A t.length).1++[f]:=by rw[n];rfl
  cases b:(A t.length).2 with
  |true =>
   rw[b,bl rfl]at g;refine aX [(46,ab)] rfl ?_ (AK.norm [.cells 76 [.c (.str f.1),.c (.str f.2)],bV (sR t f)] rfl ?_ (AK.de [1] rfl ?_ rfl rfl rfl ?_))
   .simp
   .rw[g];simp
   .rw[g];simp
   grind
  |false =>
   rw[b,aZ (by simp)]at g;refine aX [(46,af)] rfl ?_ (AK.norm [.cells 76 [.c (.str f.1),.c (.str f.2)],bV (sR t f)] rfl ?_ (AK.de [1] rfl ?_ rfl rfl rfl ?_))
   .simp[i76];omega
   .rw[g];simp[-aq];exact cF.cu _ f
   .rw[g];simp[-aq];exact cF.cu _ f
   grind
end
end Go.AM.R1
namespace Go.AM
def cv.app0{n:Nat}{f g:Nat->List C}:cv n (cA 0 f g) g:=λi _=>by simp[cA]
namespace R1
variable {X:Cx ag}
def Zt:dt:=λargs σ=>match args,σ with
 |[d,.e (.agg [.c (.str b0),.c (.str b1)])],[]=>match kX 2 d with
  |none=>ae
  |some (a,b)=>aa (dV 0 (sR (cF.list a b) (b0,b1)) ,[ bV (sR (cF.list a b) (b0,b1))],[cF.fits a b,((cF.list a b)).length<=4000000])
 |_,_=>ae
def t88:ef X 88 Zt:=by
 intro args σ res σ' obs h a;unfold Zt at h;split at h
 .split at h
  .cases h
  rename_i c d b;cases h;exact(O7 _ _ (a.2)).args (λ_ vs=>cg.imp (λ_=>cF.jT b a.1) (cg.imp (λ_ r=>r) (λ_ r=>r)) vs)
 .cases h
def ct6:List (Nat×dt):=(88,Zt)::ct5
def Is:bE X ct6:=bE.cons t88 (Zs)
def ek(t:List bx)(p x:Bs):List bx×Bool :=
 if cw t=ab/\dD p=ab/\eg x=ab then(if cw (sR t (p,x))=ab then(sR t (p,x),ab)else(t,af))else([],af)
abbrev tVB(l:Nat)(t:List bx)(b:Bool):D:=.eX [.one (.vec l 2 t.length (cF.fn t)),.one (.c (.bool b))]
def mc{t:List bx}(h:cw t=ab):t.length<=6:=by simp only[cw,bR,ba]at h;exact h.2
def uy(t:List bx)(p x:Bs):Ev X 42 [cF.sl t,dS p,dS x] [] (tVB 0 (ek t p x).1 (ek t p x).2) [bV (ek t p x).1]:=by
 refine Ev.bQ Tryz.func42 rfl λi=>?_;have b:¬(cw t=ab/\dD p=ab/\eg x=ab)->ek t p x=([],af):=λh=>aZ h;cases a:cw t with
 |false =>
  rw[b (by grind)];refine aW Is [(10,af)] rfl ?_ ?_
  .simp[cF.list_fn,cF.aU,a]
  .refine AK.iC 6 76 2 rfl rfl (AK.norm [bV []] rfl ?_ (AK.de [0] rfl ?_ rfl rfl rfl ?_))
   .simp[cv]
   .simp[cv]
   grind
 |true =>
  have g:=mc a;cases c:dD p with
  |false =>
   rw[b (by grind)];refine aW Is [(10,ab),(14,af)] rfl ?_ ?_
   .simp[cF.list_fn,cF.aU,a,c]
   .refine AK.iC 6 76 2 rfl rfl (AK.norm [bV []] rfl ?_ (AK.de [0] rfl ?_ rfl rfl rfl ?_))
    .simp[cv]
    .simp[cv]
    grind
  |true =>
   cases d:eg x with
   |false =>
    rw[b (by grind)];refine aW Is [(10,ab),(14,ab),(19,af)] rfl ?_ ?_
    .simp[cF.list_fn,cF.aU,a,c,d]
    .refine AK.iC 6 76 2 rfl rfl (AK.norm [bV []] rfl ?_ (AK.de [0] rfl ?_ rfl rfl rfl ?_))
     .simp[cv]
     .simp[cv]
     grind
   |true =>
    have e:ek t p x=if cw (sR t (p,x))=ab then(sR t (p,x),ab)else(t,af):=bl ⟨a,c,d⟩;cases f:cw (sR t (p,x))with
    |true =>
     rw[f,bl rfl]at e;rw[e];refine aW Is [(10,ab),(14,ab),(19,ab),(29,ab)] rfl ?_ (AK.norm [bV (sR t (p,x))] rfl ?_ (AK.de [0] rfl ?_ rfl rfl rfl ?_))
     .simp[cF.list_fn,cF.aU,a,c,d,f];omega
     .simp[cF.list_fn]
     .simp[cF.list_fn]
     grind
    |false =>
     rw[f,aZ (by simp)]at e;rw[e];refine aW Is [(10,ab),(14,ab),(19,ab),(29,af)] rfl ?_ (AK.norm [bV (sR t (p,x)),bV t] rfl ?_ (AK.de [1] rfl ?_ rfl rfl rfl ?_))
     .simp[cF.list_fn,cF.aU,a,c,d,f,i76];omega
     .simp[cF.list_fn,cv.app0]
     .simp[cv.app0]
     grind
def xM(t:List bx)(p x:Bs):Ev X 42 [cF.sl t,dS p,dS x] [] (Sg (ek t p x).1 (ek t p x).2) [] :=
 (uy t p x).forget rfl (by simp) rfl
def Zu:dt:=λargs σ=>match args,σ with
 |[f,.e (.one (.c (.str b))),.e (.one (.c (.str c)))],[]=>match kX 2 f with
  |none=>ae
  |some (a,d)=>aa (Sg (ek (cF.list a d) b c).1 (ek (cF.list a d) b c).2,[],[cF.fits a d])
 |_,_=>ae
def t42:ef X 42 Zu:=by
 intro args σ res σ' obs h b;unfold Zu at h;split at h
 .split at h
  .cases h
  rename_i c d a;cases h;exact(xM _ _ _ ).args (λ_ vs=>cg.imp (λ_=>cF.jT a b) (cg.imp (λ_ r=>r) (cg.imp (λ_ r=>r) (λ_ r=>r))) vs)
 .cases h
def ct7:List (Nat×dt):=(42,Zu)::ct6
def Zv:bE X ct7:=bE.cons t42 (Is)
end R1
def HE(cs:List C)(j:Nat):Nat×(Nat->List C):=match du j cs with|some (.sl _ _ n es)=>(n,es)|_=>(0,λ_=>[])
def cI:mh Int:={k:=1,enc:=λn=>[.int .i64 n],dec:=λcs=>xg cs 0,b5:=0,inv:=λ_=>rfl,len:=λ_=>rfl}
def cS:mh Bs:={k:=1,enc:=λs=>[.str s],dec:=λcs=>Ck cs 0,b5:=[],inv:=λ_=>rfl,len:=λ_=>rfl}
namespace R1
def dO:mh bn:={k:=2,enc:=λx=>[.int .i64 x.1,.str x.2],dec:=λcs=>(xg cs 0,Ck cs 1),b5:=(0,[]),inv:=λ_=>rfl,len:=λ_=>rfl}
def oU:mh cn:={k:=2,enc:=λx=>[.int .i64 x.1,.int .i64 x.2],dec:=λcs=>(xg cs 0,xg cs 1),b5:=(0,0),inv:=λ_=>rfl,len:=λ_=>rfl}
abbrev sP(p:bG):C:=.sl af 2 p.2.length (dO.fn p.2)
def cP:mh bG:={k:=2,enc:=λp=>[.int .i64 p.1,sP p],dec:=λcs=>(xg cs 0,dO.list (HE cs 1).1 (HE cs 1).2),b5:=(0,[]),inv:=λp=>by show(p.1,dO.list p.2.length (dO.fn p.2))=p;rw[dO.list_fn],len:=λ_=>rfl}
def cL:mh jU:={k:=2,enc:=λx=>[.str x.1,.sl af 1 x.2.length (cI.fn x.2)],dec:=λcs=>(Ck cs 0,cI.list (HE cs 1).1 (HE cs 1).2),b5:=([],[]),inv:=λp=>by show(p.1,cI.list p.2.length (cI.fn p.2))=p;rw[cI.list_fn],len:=λ_=>rfl}
def gp:mh gE:={k:=2,enc:=λx=>[.int .i64 x.1,.sl af 2 x.2.length (cL.fn x.2)],dec:=λcs=>(xg cs 0,cL.list (HE cs 1).1 (HE cs 1).2),b5:=(0,[]),inv:=λp=>by show(p.1,cL.list p.2.length (cL.fn p.2))=p;rw[cL.list_fn],len:=λ_=>rfl}
def cH:mh (Int×Int):=oU
abbrev KI(p:bG):D:=.e (.agg [.c (.int .i64 p.1),.c (sP p)])
abbrev Xk(r:Option Bs):D:=.e (.agg [.c (.str (r.getD [])),.c (.bool r.isSome)])
end R1
structure Arg(α:Type) where
 enc:α->D
 arg:D->Option (α×List Prop)
 ok:∀{d a o},arg d=aa (a,o)->az o->∀{σ:List aP} {s:St} {v:ah},dk σ s v d->dk σ s v (enc a)
def aI:Arg Int:=⟨dI,λd=>match d with|.e (.one (.c (.int .i64 n)))=>aa (n,[])|_=>ae,λ{d a o} h _ _ _ _ r=>by grind⟩
def aS:Arg Bs:=⟨dS,λd=>match d with|.e (.one (.c (.str n)))=>aa (n,[])|_=>ae,λ{d a o} h _ _ _ _ r=>by grind⟩
def aL{α:Type}(c:mh α):Arg (List α):=⟨c.sl,λd=>match kX c.k d with|some (n,es)=>aa (c.list n es,[c.fits n es])|none=>ae,λ{d a o} h b _ _ _ r=>by
 split at h
 .rename_i n es he;cases h;exact c.jT he b r
 .cases h⟩
def TP:Arg (Int×Bs):=⟨λx=>.e (.agg [.c (.int .i64 x.1),.c (.str x.2)]),λd=>match d with|.e (.agg [.c (.int .i64 a),.c (.str b)])=>aa ((a,b),[])|_=>ae,λ{d a o} h _ _ _ _ r=>by grind⟩
def TQ:Arg (Int×Int):=⟨λx=>.e (.agg [.c (.int .i64 x.1),.c (.int .i64 x.2)]),λd=>match d with|.e (.agg [.c (.int .i64 a),.c (.int .i64 b)])=>aa ((a,b),[])|_=>ae,λ{d a o} h _ _ _ _ r=>by grind⟩
def Eu{α:Type}(c:mh α):Arg (Int×List α):=⟨λx=>.e (.agg [.c (.int .i64 x.1),.c (.sl af c.k x.2.length (c.fn x.2))]),λd=>match d with
 |.e (.agg [.c (.int .i64 a),.c b])=>match kX c.k (.e (.one (.c b)))with|some (n,es)=>aa ((a,c.list n es),[c.fits n es])|none=>ae
 |_=>ae,λ{d a o} h m _ s _ r=>by
 split at h
 .split at h
  .rename_i n es he;cases h;obtain⟨vs,l,g⟩:=r
   match vs,g with
   |[],g=>exact g.elim
   |[_],g=>exact g.2.elim
   |_::_::_::_,g=>exact g.2.2.elim
   |[q,p],g=>exact⟨_,l,g.1,c.jT (σ:=[]) (s:=s) (v:=p) he m g.2.1,ay⟩
  .cases h
 .cases h⟩
def kr{α:Type}(A:Arg α)(res:α->D)(pre:α->List Prop):dt:=λargs σ=>match args,σ with
 |[d],[]=>match A.arg d with
  |some (a,o)=>aa (res a,[],kM o (pre a))
  |none=>ae
 |_,_=>ae
def oT{α i:Type}(A:Arg α)(B:Arg i)(res:α->i->D)(pre:α->i->List Prop):dt:=λargs σ=>match args,σ with
 |[d,e],[]=>match A.arg d with
  |some (a,o)=>match B.arg e with
   |some (b,p)=>aa (res a b,[],kM o (kM p (pre a b)))
   |none=>ae
  |none=>ae
 |_,_=>ae
def Gg{α i j:Type}(A:Arg α)(B:Arg i)(C:Arg j)(res:α->i->j->D)(pre:α->i->j->List Prop):dt:=λargs σ=>match args,σ with
 |[d,e,f],[]=>match A.arg d with
  |some (a,o)=>match B.arg e with
   |some (b,p)=>match C.arg f with
    |some (c,q)=>aa (res a b c,[],kM o (kM p (kM q (pre a b c))))
    |none=>ae
   |none=>ae
  |none=>ae
 |_,_=>ae
section
variable {P:ar}{X:Cx P}{f:aJ}{α i j:Type}{A:Arg α}{B:Arg i}{C:Arg j}
def ef.pz{res:α->D}{pre:α->List Prop}(h:∀a,az (pre a)->Ev X f [A.enc a] [] (res a) []):ef X f (kr A res pre):=by
 intro args σ r σ' obs h1 ho;unfold kr at h1;split at h1
 .split at h1
  .rename_i d a o b;cases h1;rw[az.cat]at ho;exact(h a ho.2).args λs vs=>cg.imp (λ_ r=>A.ok b ho.1 r) (λ_ r=>r) vs
  .cases h1
 .cases h1
def ef.sD{res:α->i->D}{pre:α->i->List Prop}(h:∀a b,az (pre a b)->Ev X f [A.enc a,B.enc b] [] (res a b) []):ef X f (oT A B res pre):=by
 intro args σ r σ' obs h1 ho;unfold oT at h1;split at h1
 .split at h1
  .rename_i d e a o c;split at h1
   .rename_i b p g;cases h1;rw[az.cat,az.cat]at ho;exact(h a b ho.2.2).args λs vs=>cg.imp (λ_ r=>A.ok c ho.1 r) (cg.imp (λ_ r=>B.ok g ho.2.1 r) (λ_ r=>r)) vs
   .cases h1
  .cases h1
 .cases h1
def ef.Na{res:α->i->j->D}{pre:α->i->j->List Prop}(h:∀a b c,az (pre a b c)->Ev X f [A.enc a,B.enc b,C.enc c] [] (res a b c) []):ef X f (Gg A B C res pre):=by
 intro args σ r σ' obs h1 ho;unfold Gg at h1;split at h1
 .split at h1
  .rename_i d e g a o k;split at h1
   .rename_i b p m;split at h1
    .rename_i c q l;cases h1;rw[az.cat,az.cat,az.cat]at ho;exact(h a b c ho.2.2.2).args λs vs=>cg.imp (λ_ r=>A.ok k ho.1 r) (cg.imp (λ_ r=>B.ok m ho.2.1 r) (cg.imp (λ_ r=>C.ok l ho.2.2.1 r) (λ_ r=>r))) vs
    .cases h1
   .cases h1
  .cases h1
 .cases h1
end
namespace R1
def xh(a:List D)(res:D):dt:=λargs σ=>match σ with|[]=>aa (res,[],[args=a])|_=>ae
def Au{X:Cx ag}{f:aJ}{a:List D}{res:D}(h:Ev X f a [] res []):ef X f (xh a res):=by
 intro args σ r σ' obs he ho;unfold xh at he;split at he
 .cases he;have:args=a:=ho;subst this;exact h
 .cases he
def yM(a:List D)(σ0:List aP)(res:D)(σ1:List aP):dt:=λargs σ=>aa (res,σ1,[args=a,σ=σ0])
def Cl{X:Cx ag}{f:aJ}{a:List D}{σ0 σ1:List aP}{res:D}(h:Ev X f a σ0 res σ1):ef X f (yM a σ0 res σ1):=by intro args σ r σ' obs he ho;cases he;obtain⟨b,c⟩:args=a/\σ=σ0:=ho;subst b c;exact h
end R1
end Go.AM
namespace Go.AM.R1
section
variable {X:Cx ag}
def KD(k:Int):Ev X 30 [dI k] [] (dB (cd k)) []:=by
 refine Ev.bQ Tryz.func30 rfl λc=>?_;by_cases a:1<=k
 .by_cases b:k<=99
  .refine aX [(4,ab),(7,ab)] rfl ?_ (AK.bw rfl ?_)
   .simp[a,b]
   .simp[cd,a,b]
  .refine aX [(4,ab),(7,af)] rfl ?_ (AK.bw rfl ?_)
   .simp[a];omega
   .simp[cd,a,b]
 .refine aX [(4,af)] rfl ?_ (AK.bw rfl ?_)
  .simp;omega
  .simp[cd,a]
def t30:ef X 30 (kr aI (λk=>dB (cd k)) λ_=>[]):=.pz λk _=>KD k
def Aq{s:Bs}{i:Nat}(h:i<s.length):b6 (s.take (i+1))=(b6 (s.take i)&&eP (s.getD i 0)):=by unfold b6;grind[List.take_add_one]
def pA{b:UInt8}:eP b=ab↔97<=(b.toNat:Int)/\(b.toNat:Int)<=122:=by simp[eP];omega
def w9{s:Bs}{i:Nat}(h:i<s.length)(b:eP (s.getD i 0)=af):b6 s=af:=by
 cases a:b6 s with
 |false=>rfl
 |true =>
  have:=List.all_eq_true.1 a (s.getD i 0) (by grind);grind
def Cg(s:Bs):Ev X 113 [dS s] [] (dB (b6 s)) []:=by
 refine Ev.bQ Tryz.func113 rfl λg=>?_;have f:=g.str 0 rfl;refine bt rfl ay ?_;refine AK.wM (λi=>i<=s.length/\b6 (s.take i)=ab) (λi:Nat=>[(0,dS s),(5,dI s.length),(6,dI i)]) (λ_=>[]) (λi=>s.length-i) 0 rfl (by simp) ⟨by omega,by simp[b6]⟩ rfl ?_;rintro i ⟨hi,a⟩;by_cases h:i<s.length
 .by_cases b:cK s i<97
  .refine aX [(7,ab),(12,ab)] rfl ?_ (AK.iD (cp.zero rfl ?_))
   .simp[-aq,h,cN,b]
   .have:eP (s.getD i 0)=af:=by
     cases c:eP (s.getD i 0)with
     |false=>rfl
     |true=>have:=pA.1 c;unfold cK at b;omega
    simp[w9 h this]
  .by_cases d:cK s i<=122
   .refine aX [(7,ab),(12,af),(17,af)] rfl ?_ (AK.again (i+1) rfl ?_ ?_ ?_ rfl)
    .simp[-aq,h,cN,b,d,bA];grind
    .simp
    .refine⟨by omega,?_⟩;rw[Aq h,a,fC];exact pA.2 (by unfold cK at b d;omega)
    .omega
   .refine aX [(7,ab),(12,af),(17,ab)] rfl ?_ (AK.iD (cp.zero rfl ?_))
    .simp[-aq,h,cN,b];grind
    .have:eP (s.getD i 0)=af:=by
      cases c:eP (s.getD i 0)with
      |false=>rfl
      |true=>have:=pA.1 c;unfold cK at d;omega
     simp[w9 h this]
 .have e:i=s.length:=by omega
  subst e;refine aX [(7,af)] rfl (by simp) (AK.leave rfl rfl ?_);refine bt rfl ay (AK.bw rfl ?_);rw[di]at a;simp[a]
def Vh:ef X 113 (kr aS (λs=>dB (b6 s)) λ_=>[]):=.pz λk _=>Cg k
abbrev tb1:List (Nat×dt):=[(30,kr aI (λk=>dB (cd k)) λ_=>[]),(113,kr aS (λs=>dB (b6 s)) λ_=>[])]
def YO:bE X tb1:=.cons t30 (.cons Vh .nil)
def Ch(p:Bs):Ev X 129 [dS p] [] (dB (bz p)) []:=by
 refine Ev.bQ Tryz.func129 rfl λc=>?_;by_cases a:1<=p.length
 .by_cases b:p.length<=8
  .refine aW YO [(5,ab),(9,ab),(11,ab)] rfl ?_ (AK.bw rfl ?_)
   .simp;omega
   .simp[bz,a,b]
  .refine aW YO [(5,ab),(9,af),(11,af)] rfl ?_ (AK.bw rfl ?_)
   .simp;omega
   .simp[bz,a,b]
 .refine aW YO [(5,af),(11,af)] rfl ?_ (AK.bw rfl ?_)
  .simp;omega
  .simp[bz,a]
def t129:ef X 129 (kr aS (λs=>dB (bz s)) λ_=>[]):=.pz λk _=>Ch k
def Ci(n:Nat)(h:n<=4000000):Ev X 146 [dI n] [] (dI (cG n)) []:=by
 refine Ev.bQ Tryz.func146 rfl λd=>?_;by_cases c:n<1
 .refine aX [(5,ab),(9,ab)] rfl ?_ (AK.bw rfl ?_)
  .simp;omega
  .simp[cG,c]
 .by_cases b:8<n
  .refine aX [(5,af),(8,ab)] rfl ?_ (AK.bw rfl ?_)
   .simp;omega
   .simp[cG,b]
  .refine aX [(5,af),(8,af)] rfl ?_ ?_
   .simp;omega
   have e:cG n=2∨cG n=4∨cG n=8:=by unfold cG;grind
   refine AK.wM (λi:Nat=>(i=2∨i=4∨i=8)/\i<=cG n) (λi:Nat=>[(0,dI n),(3,dI i)]) (λ_=>[]) (λi=>8-i) 2 rfl (by simp) ⟨by simp,by omega⟩ rfl ?_;rintro i ⟨hi,a⟩;by_cases h:i<n
   .refine aX [(12,ab)] rfl ?_ (AK.again (2*i) rfl ?_ ?_ ?_ rfl)
    .simp[bA];omega
    .simp;omega
    .unfold cG at a⊢;grind
    .omega
   .refine aX [(12,af)] rfl (by simp;omega) (AK.leave rfl rfl ?_);refine bt rfl ay (AK.bw rfl ?_);have:i=cG n:=by unfold cG at a⊢;grind
    simp[this]
theorem En(s:Bs)(b:UInt8):strip (s++[b])=if b=46 then strip s else s++[b]:=by unfold strip;grind[List.dropWhile_cons]
def xa{s:Bs}{n:Nat}(h:n<s.length):strip (s.take (n+1))=if s.getD n 0=46 then strip (s.take n)else s.take (n+1):=by grind[List.take_add_one,En]
theorem Cj(s:Bs):Ev X 215 [dS s,dU 46] [] (dS (strip s)) []:=by
 refine Ev.bQ Tryz.func215 rfl λj=>?_;have f:=j.str 0 rfl;refine bt rfl ay ?_;refine AK.wM (λn=>n<=s.length/\strip (s.take n)=strip s) (λn:Nat=>[(0,dS (s.take n)),(1,dU 46)]) (λ_=>[]) (λn=>n) s.length rfl (by simp) ⟨by omega,by simp⟩ rfl ?_;rintro n ⟨k,a⟩;cases n with
 |zero =>
  refine aX [(7,af),(16,af)] rfl ?_ (AK.leave rfl rfl ?_)
  .simp
  refine bt rfl ay (AK.bw rfl ?_);have:strip s=[]:=by rw[<-a];rfl
  simp[this]
 |succ n =>
  have g:(s.take (n+1)).length=n+1:=by grind
  have h:cK (s.take (n+1)) n=cK s n:=by simp[cK,aq,iN]
  have i:=xa (s:=s) (n:=n) (by omega);have b:((n:Int)+1-1).toNat=n:=by omega
  by_cases c:s.getD n 0=46
  .refine aX [(7,ab),(15,ab),(16,ab)] rfl ?_ (AK.again n rfl ?_ ?_ ?_ rfl)
   .have d:cK s n=46:=by unfold cK;rw[c];rfl
    simp[-aq,-List.length_take,g,cN,b,h,d,bA];omega
   .simp;show(s.take (n+1)).take _=_;grind
   .grind
   .omega
  .refine aX [(7,ab),(15,af),(16,af)] rfl ?_ (AK.leave rfl rfl ?_)
   .have d:cK s n≠46:=by unfold cK;intro e;exact c (n9.1 (by grind))
    simp[-aq,-List.length_take,g,cN,b,h,d,bA];omega
   refine bt rfl ay (AK.bw rfl ?_);rw[i,aZ c]at a;simp[a]
def Vi:dt:=λargs σ=>match args,σ with
 |[.e (.one (.c (.str s))),.e (.one (.c (.int .u8 46)))],[]=>aa (dS (strip s),[],[])
 |_,_=>ae
def t215:ef X 215 Vi:=by intro args σ res σ' obs h _;unfold Vi at h;grind[Cj]
theorem On(s:Bs):Ev X 181 [dS s,dS [46]] [] (dS (strip s)) []:=by
 refine Ev.bQ Tryz.func181 rfl λb=>?_;by_cases h:s=[]
 .subst h;refine aW (bE.cons t215 .nil) [(8,ab),(12,ab)] rfl ?_ (AK.bw rfl ?_)
  .simp
  .simp[strip]
 .refine aW (bE.cons t215 .nil) [(8,af),(11,af),(12,af),(16,ab),(20,ab),(21,ab)] rfl ?_ (AK.bw rfl)
  .cases s with
   |nil=>grind
   |cons a r=>simp;decide
def R6:dt:=λargs σ=>match args,σ with
 |[.e (.one (.c (.str s))),.e (.one (.c (.str [46])))],[]=>aa (dS (strip s),[],[])
 |_,_=>ae
def t181:ef X 181 R6:=by intro args σ res σ' obs h _;unfold R6 at h;grind[On]
def uq{p:Bs}{i:Nat}(h:i<p.length):codeOf (p.take (i+1))=27*codeOf (p.take i)+(cK p i-97) % 256+1:=by unfold codeOf;rw[ld,br h];simp only[List.foldl_append,Option.toList_some,lh,List.foldl_nil,cK,aq,br h,im]
def jS{p:Bs}(h:bz p=ab){i:Nat}(hi:i<=p.length):0<=codeOf (p.take i)/\codeOf (p.take i)<282429536481:=by simp only[bz,bR,ba]at h;obtain⟨a,q2⟩:=xb (p.take i) 0 1 0 (λb c=>gO h.2 b (fW c)) (by omega) (by omega) (by omega);have:=Qk (n:=(p.take i).length) (by grind);rw[Int.one_mul]at q2;exact⟨a,Int.lt_of_lt_of_le q2 this⟩
def xc{p:Bs}{i:Nat}(h:i<p.length):p.getD i 0∈p:=by grind
abbrev tb2:List (Nat×dt):=[(30,kr aI (λk=>dB (cd k)) λ_=>[]),(129,kr aS (λs=>dB (bz s)) λ_=>[])]
def sY:bE X tb2:=.cons t30 (.cons t129 .nil)
abbrev YP(n:Int):D:=.eX [.one (.c (.int .i64 n)),.one (.c .iy)]
def KE(k:Int)(p:Bs)(hk:cd k=ab)(b:bz p=ab):Ev X 81 [dI k,dS p] [] (YP (en k p)) []:=by
 refine Ev.bQ Tryz.func81 rfl λo=>?_;have a:=b;simp only[bz,bR,ba]at a;have c:=hk;simp only[cd,bR,ba]at c;refine aW sY [(8,af),(13,af)] rfl (by simp[hk,b]) ?_;refine AK.wM (λi=>i<=p.length) (λi:Nat=>[(0,dI k),(1,dS p),(6,dI (codeOf (p.take i))),(19,dI p.length),(20,dI i)]) (λ_=>[]) (λi=>p.length-i) 0 rfl (by simp[codeOf]) (by omega) rfl ?_;intro i hi;by_cases h:i<p.length
 .have f:=jS b hi;have q:=jS b (i:=i+1) (by omega);have e:=uq h;refine aX [(21,ab)] rfl ?_ (AK.again (i+1) rfl ?_ ?_ ?_ rfl)
  .simp only[az,cN,bA];simp[-aq,h,cN];have g:=gO a.2 (p.getD i 0) (xc h);have d:97<=cK p i/\cK p i<=122:=by unfold cK;omega
   omega
  .have g:=gO a.2 (p.getD i 0) (xc h);have d:97<=cK p i/\cK p i<=122:=by unfold cK;omega
   have j:(cK p i-97) % 256=cK p i-97:=Int.emod_eq_of_lt (by omega) (by omega);rw[j]at e;simp[-aq,cN,e]
  .grind
  grind
 .have e:i=p.length:=by omega
  subst e;have f:=qq b;refine aX [(21,af)] rfl (by simp) (AK.leave rfl rfl ?_);refine bt rfl ?_ (AK.bw rfl ?_)
  .rw[di];have n:0<=codeOf p*(2*k+1):=Int.mul_nonneg f.1 (by omega);have l:codeOf p*(2*k+1)<=282429536481*199:=Int.mul_le_mul (by omega) (by omega) (by omega) (by omega);generalize codeOf p*(2*k+1)=m at n l;simp only[az,bA];simp;omega
  .rw[di];refine az.cat.2 ⟨?_,az.cat.2 ⟨rfl,ay⟩⟩;show(_:Int)=_;rw[Int.mul_comm 7919 k];rfl
def t81:ef X 81 (oT aI aS (λk p=>YP (en k p)) λk p=>[cd k=ab,bz p=ab]):=.sD λk p h=>KE k p h.1 h.2
def Eo{P:ar}{o:au}{k:ak->D}{σ:List aP}{op:BinOp}{t ty:aj}{x:ak}(h:o.op=.binOp op t x (.const .nilIface) ty){c:Bool}{q:Array (String×aj)}(m:P.underlying t=aa (.interface q))(r:k x=.e (.one (.c .iy)))(p:k (.const .nilIface)=.e (.one (.c .iy)))(j:jb op ab=aa c):bF P o k σ (.e (.one (.c (.bool c)))) σ:=by
 refine .quiet λs l u n=>?_;have f:=n x;have g:=n (.const .nilIface);rw[r]at f;rw[p]at g;replace f:=eT f;replace g:=eT g;generalize a:l x=vx at f;generalize b:l (.const .nilIface)=vy at g;cases f;cases g;have i:(Op.equal t .nilIface .nilIface).run P s.w=.ok ab s.w:=by show(aY (9999+1) t _ _).run P s.w=_;unfold aY;simp[underlying,m]
 have d:∀es,(Op.equal t .nilIface .nilIface).events P s.w es=es:=λes=>by show(aY (9999+1) t _ _).events P s.w es=es;unfold aY;simp[underlying,m]
 cases op<;>simp only[jb,reduceCtorEq,dn]at j
 .subst j;exact⟨.bool ab,by simp[aw,h,a,b,eqGuard,binOp,i],Rd.bool,by simp[aw,h,a,b,eqGuard,binOp,i,d]⟩
 .subst j;exact⟨.bool af,by simp[aw,h,a,b,eqGuard,binOp,i],Rd.bool,by simp[aw,h,a,b,eqGuard,binOp,i,d]⟩
def HC(k:Int)(p:Bs)(n:Int)(hk:cd k=ab)(a:bz p=ab):Ev X 154 [dI k,dS p,dI n] [] (dB (en k p==n)) []:=by
 refine Ev.bQ Tryz.func154 rfl λb=>?_;refine aW (bE.cons t81 .nil) [(17,ab)] rfl ?_ ?_
 .simp[hk,a]
 refine AK.law (Eo rfl Tryz.underlying57 rfl rfl rfl) rfl rfl ?_;refine aW (bE.cons t81 .nil) [(17,ab)] rfl ?_ (AK.bw rfl ?_)
 .rfl
 .rfl
def t154:ef X 154 (Gg aI aS aI (λk p n=>dB (en k p==n)) λk p _=>[cd k=ab,bz p=ab]):=.Na λk p n h=>HC k p n h.1 h.2
abbrev nC:dt:=kr aS (λp=>dS (eO p)) λ_=>[]
abbrev Ar(r:Option Bs):D:=.eX [.one (.c (.str (r.getD []))),.one (.c (.bool r.isSome))]
def Ep(c:ef X 119 nC)(b:Bs):Ev X 153 [dS b] [] (Ar (eQ b)) []:=by
 refine Ev.bQ Tryz.func153 rfl λf=>?_;have e:bE X [(181,R6),(129,kr aS (λs=>dB (bz s)) λ_=>[]),(119,nC)]:=.cons t181 (.cons t129 (.cons c .nil));by_cases a:bz (strip b)=ab
 .by_cases d:eO (strip b)=b
  .refine aW e [(10,af),(15,af)] rfl ?_ (AK.bw rfl ?_)
   .simp[a,d]
   .simp[eQ,a,d]
  .refine aW e [(10,af),(15,ab)] rfl ?_ (AK.bw rfl ?_)
   .simp[a,d]
   .simp[eQ,a,d]
 .refine aW e [(10,ab),(15,ab)] rfl ?_ (AK.bw rfl ?_)
  .simp[a]
  .simp[eQ,a]
def Vj(a:ef X 119 nC):ef X 153 (kr aS (λb=>Ar (eQ b)) λ_=>[]):=.pz λb _=>Ep a b
def xd{b p:Bs}(h:eQ b=aa p):bz p=ab:=by unfold eQ at h;grind
abbrev YQ(x:bn):D:=TP.enc x
def KF(c:ef X 119 nC)(x:bn)(k:Int)(hk:cd k=ab):Ev X 137 [YQ x,dI k] [] (Ar (chunk k x)) []:=by
 refine Ev.bQ Tryz.func137 rfl λg=>?_;have e:bE X [(153,kr aS (λb=>Ar (eQ b)) λ_=>[]),(154,Gg aI aS aI (λk p n=>dB (en k p==n)) λk p _=>[cd k=ab,bz p=ab])]:=.cons (Vj c) (.cons t154 .nil);cases a:eQ x.2 with
 |none =>
  refine aW e [(16,ab),(23,ab)] rfl ?_ (AK.bw rfl ?_)
  .simp[a]
  .simp[chunk,a]
 |some p =>
  have f:=xd a;by_cases d:en k p=x.1
  .refine aW e [(16,af),(23,af)] rfl ?_ (AK.bw rfl ?_)
   .simp[a,d,hk,f]
   .simp[chunk,a,d,hk]
  .refine aW e [(16,af),(23,ab)] rfl ?_ (AK.bw rfl ?_)
   .simp[a,d,hk,f]
   .simp[chunk,a,d,hk]
def KG(a:ef X 119 nC):ef X 137 (oT TP aI (λx k=>Ar (chunk k x)) λ_ k=>[cd k=ab]):=.sD λx k h=>KF a x k h
def R8(x:bn)(n:Int):Ev X 225 [YQ x,.e (.one (.c (.rp [.int .i64 n])))] [] (dB (x.1==n)) []:=by refine Ev.bQ Tryz.func225 rfl λa=>?_;exact bt rfl ay (AK.bw rfl)
def R9:dt:=λargs σ=>match args,σ with
 |[.e (.agg [.c (.int .i64 a0),.c (.str a1)]),.e (.one (.c (.rp [.int .i64 n])))],[]=>aa (dB (a0==n),[],[a1=a1])
 |_,_=>ae
def t225:ef X 225 R9:=by
 intro args σ res σ' obs h c;unfold R9 at h;split at h
 .rename_i b a n;cases h;exact R8 (b,a) n
 grind
abbrev KH(n:Int):D:=.e (.one (.c (.fn (.func 225) [] [.rp [.int .i64 n]])))
def As(l:List bn)(n:Int):Int:=match l.findIdx? (λx=>x.1==n)with|some i=>i|none=>-1
def Oo{t:List bn}{n:Int}{i:Nat}(hi:i<t.length)(h:(t.getD i (0,[])).1=n)(a:∀j,j<i->(t.getD j (0,[])).1≠n):As t n=i:=by
 have:t.findIdx? (λf=>f.1==n)=aa i:=by
  rw[vI];refine⟨hi,?_,λj b=>?_⟩
  .grind
  grind
 rw[As,this]
def HD{t:List bn}{n:Int}(a:∀j,j<t.length->(t.getD j (0,[])).1≠n):As t n=-1:=by
 have:t.findIdx? (λf=>f.1==n)=ae:=by grind[List.getElem_of_mem]
 rw[As,this]
def Oq(t:List bn)(n:Int):Ev X 224 [dO.sl t,KH n] [] (dI (As t n)) []:=by
 refine Ev.bQ Tryz.func224 rfl λe=>?_;have c:=e.sl 0 rfl;have b:bE X [(225,R9)]:=.cons t225 .nil;refine cf b rfl ay ?_;refine AK.j3 (λi=>i<=t.length/\∀j,j<i->(t.getD j (0,[])).1≠n) (λi:Nat=>[(0,dO.sl t),(1,KH n),(7,dI t.length),(8,dI i)]) (λ_=>[]) (λi=>t.length-i) 0 rfl ?_ rfl ay ⟨by omega,by omega⟩ ?_
 .simp
 rintro i ⟨hi,a⟩;by_cases h:i<t.length
 .by_cases d:(t.getD i (0,[])).1=n
  .refine aW b [(9,ab),(16,ab)] rfl ?_ (AK.iD (cp.zero rfl ?_))
   .simp only[az,b9];grind
   .simp[Oo h d a]
  .refine aW b [(9,ab),(16,af)] rfl ?_ (AK.gf (i+1) rfl ?_ rfl ay ?_ ?_)
   .simp only[az,b9];exact⟨by simp only[bA];omega,ay,eD.2 d,by omega,by omega,db (by omega)⟩
   .simp
   .grind
   .omega
 .refine aW b [(9,af)] rfl (by simp;omega) (AK.leave rfl rfl ?_);refine cf b rfl ay (AK.bw rfl ?_);simp[HD (λj f=>a j (by omega))]
def Sa:dt:=λargs σ=>match args,σ with
 |[d,.e (.one (.c (.fn (.func 225) [] [.rp [.int .i64 n]])))],[]=>match kX 2 d with
  |none=>ae
  |some (m,es)=>aa (dI (As (dO.list m es) n),[],[dO.fits m es])
 |_,_=>ae
def t224:ef X 224 Sa:=by
 intro args σ res σ' obs h a;unfold Sa at h;split at h
 .rename_i d n;split at h
  .cases h
  rename_i m es hd;cases h;exact(Oq _ n).args (λ_ vs=>cg.imp (λ_=>dO.jT hd a) (cg.imp (λ_ r=>r) (λ_ r=>r)) vs)
 grind
def Er(t:List bn)(n:Int):(As t n=-1/\t.find? (λx=>x.1==n)=ae)∨∃i:Nat,i<t.length/\As t n=i/\t.find? (λx=>x.1==n)=aa (t.getD i (0,[])):=by unfold As;grind[List.findIdx?_eq_some_iff_getElem,List.find?_eq_some_iff_getElem]
def Et(a:ef X 119 nC)(k:Int)(p:bG)(n:Int)(hk:cd k=ab):Ev X 201 [dI k,KI p,dI n] [] (Ar (ei k p n)) []:=by
 refine Ev.bQ Tryz.func201 rfl λg=>?_;have f:bE X [(224,Sa),(137,oT TP aI (λx k=>Ar (chunk k x)) λ_ k=>[cd k=ab])]:=.cons t224 (.cons (KG a) .nil);have c:dO.list p.2.length (dO.fn p.2)=p.2:=dO.list_fn _;refine qE [] 7 rfl ay ?_;refine AK.freeze 5 1 rfl rfl rfl ?_;rcases Er p.2 n with⟨b,d⟩|⟨i,hi,b,d⟩
 .refine aW f [(14,ab)] rfl ?_ (AK.bw rfl ?_)
  .simp only[az,c,b];exact⟨rfl,dO.aU _⟩
  .simp[ei,d]
 .refine aW f [(14,af)] rfl ?_ (AK.bw rfl ?_)
  .simp only[az,c,b];exact⟨hk,by omega,by omega,iP (by omega),dO.aU _⟩
  .have e:ei k p n=chunk k (p.2.getD i (0,[])):=by simp only[ei,d]
   rw[e,c,b];simp only[b9];exact az.cat.2 ⟨rfl,az.cat.2 ⟨rfl,ay⟩⟩
def Sb(a:ef X 119 nC):ef X 201 (Gg aI (Eu dO) aI (λk p n=>Ar (ei k p n)) λk _ _=>[cd k=ab]):=.Na λk p n h=>Et a k p n h
abbrev dQ(n:Int):D:=.e (.one (.c (.int .u64 n)))
def _root_.Go.AM.AW.Gh{P:ar}{X:Cx P}{N:Nat}{Q:Post}{φ:Fr}{σ:List aP}{x y:Code}(h:AW X N y Q φ σ):AW X N (.cond (.const (.bool af)) x y) Q φ σ:=by intro s a f hh b k cs S c d;refine .ctl hh rfl (λ_=>ve (t:=af) rfl) λj h1=>?_;exact h j a (f.rely h1 hh) (hh.rely h1) b k cs S c λe φ' σ' s' a' q i g st=>d e φ' σ' s' a' q i g (h1.stepW.trans st)
def _root_.Go.AM.AK.Gh{P:ar}{X:Cx P}{N:Nat}{Qf:Post}{K:List It}{φ:Fr}{σ:List aP}{x y:Code}(h:AK X N Qf (.code y::K) .normal φ σ):AK X N Qf (.code (.cond (.const (.bool af)) x y)::K) .normal φ σ:=AW.Gh h
def El{P:ar}{o:au}{p:ak->D}{σ:List aP}{op:BinOp}{t ty:aj}{x y:ak}{k m:IntKind}{a b:Int}(c:Int)(h:o.op=.binOp op t x y ty)(v:p x=.e (.one (.c (.int k a))))(u:p y=.e (.one (.c (.int m b))))(l:bA k c)(d:∀w,(binOp op t (.int k a) (.int m b)).run P w=.ok (.int k c) w)(n:∀w,(binOp op t (.int k a) (.int m b)).events P w #[]=#[]):
  bF P o p σ (.e (.one (.c (.int k c)))) σ:=by refine .quiet λs q z r=>?_;have g:=r x;have i:=r y;rw[v]at g;rw[u]at i;replace g:=eT g;replace i:=eT i;generalize f:q x=vx at g;generalize j:q y=vy at i;cases g;cases i;exact⟨.int k c,by simp only[aw,h,bL,f,j,gN,bU,d,dq],.int l,by simp[aw,h,f,j,gN,jH,d,n]⟩
def Ex:Ev X 212 [dQ 1,dQ 2] [] (.eX [.one (.c (.int .u64 0)),.one (.c (.int .u64 2))]) []:=by refine Ev.bQ Tryz.func212 rfl λa=>?_;exact c8 rfl (by simp[bA]) (AK.bw rfl)
def Ey:Ev X 212 [dQ 1,dQ 3] [] (.eX [.one (.c (.int .u64 0)),.one (.c (.int .u64 3))]) []:=by refine Ev.bQ Tryz.func212 rfl λa=>?_;exact c8 rfl (by simp[bA]) (AK.bw rfl)
def Vk:dt:=λargs σ=>match args,σ with
 |[.e (.one (.c (.int .u64 1))),.e (.one (.c (.int .u64 c)))],[]=>aa (.eX [.one (.c (.int .u64 0)),.one (.c (.int .u64 c))],[],[c=2∨c=3])
 |_,_=>ae
def t212:ef X 212 Vk:=by
 intro args σ res σ' obs h a;unfold Vk at h;split at h
 .cases h;rcases a with rfl|rfl
  .exact Ex
  .exact Ey
 grind
def Sd(c:Int)(a:c=2∨c=3):Ev X 174 [dQ 1,dQ c] [] (.eX [.one (.c (.int .u64 0)),.one (.c (.int .u64 c))]) []:=by
 refine Ev.bQ Tryz.func174 rfl λb=>?_;refine cf (bE.cons t212 .nil) rfl ay ?_;refine AK.Gh ?_;refine cf (bE.cons t212 .nil) rfl ?_ (AK.bw rfl)
 .simp[a]
def R5:dt:=λargs σ=>match args,σ with
 |[.e (.one (.c (.int .u64 1))),.e (.one (.c (.int .u64 c)))],[]=>aa (.eX [.one (.c (.int .u64 0)),.one (.c (.int .u64 c))],[],[c=2∨c=3])
 |_,_=>ae
def t174:ef X 174 R5:=by
 intro args σ res σ' obs h a;unfold R5 at h;split at h
 .cases h;exact Sd _ a
 grind
def lN:∀(l:List UInt8)(c:UInt8),Lib.indexByte l c<l.length∨Lib.indexByte l c=-1
 |[],c=>.inr (by rw[Lib.indexByte.eq_def])
 |b::l,c=>by have a:=lN l c;grind[Lib.indexByte.eq_def]
set_option maxRecDepth 20000 in
theorem A0(s:Bs)(c:UInt8):Ev X 207 [dS s,dU c.toNat] [] (dI (Lib.indexByte s c)) []:=by
 refine Ev.bQ Tryz.func207 rfl λq=>?_;have A:=q.str 0 rfl;refine bt rfl ay ?_;refine AK.one (x:=dI (Lib.indexByte s c)) (σ':=[]) ?_ rfl ?_
 .refine OA.kQ (λ_ _ _ _=>dC (by rfl)) ?_;refine bF.og λst ρ B k=>?_;have o:=eT (k (.tmp 5));have p:=eT (k (.tmp 6));generalize i:ρ (.tmp 5)=v1 at o;generalize g:ρ (.tmp 6)=v2 at p;cases o with
  |str e1 l1 =>
  cases p with
  |int l2 =>
  have j:ρ (.func 227)=.func (.func 227) #[] #[]:=by
   have:=eT (k (.func 227));generalize ρ (.func 227)=v at this;cases this with
   |fn fs cs a b u y c1 c2 d1 d2 =>
    grind
  have f:(callFunc 227 #[.string ‹ByteArray›,.int .u8 c.toNat]).run ag st.w=.ok (.value (.int .i64 (Lib.indexByte s c))) st.w:=by rw[run_callFunc_extern Tryz.func227 (by kernel_rfl) (by kernel_rfl) (by kernel_rfl) (e:=Extern.BytealgIndexByte.indexByte) (by kernel_rfl),Lib.run_indexByteString];subst e1;simp
  have l:c7 ag (Extern.BytealgIndexByte.indexByte #[.string ‹ByteArray›,.int .u8 c.toNat]):=by
   refine c7.bind (m:=Extern.Bytes.bytesOf (.string ‹ByteArray›)) (λ_ _=>rfl) λb=>c7.bind (m:=Extern.Bytes.asByte (.int .u8 c.toNat)) (λ_ _=>?_) λd=>?_
   .simp[Extern.Bytes.asByte]
   .skip
    split<;>exact .pure
  have h:=lY Tryz.func227 (by kernel_rfl) (by kernel_rfl) (by kernel_rfl) (e:=Extern.BytealgIndexByte.indexByte) (by kernel_rfl) _ l st.w #[];refine⟨.int .i64 (Lib.indexByte s c),?_,Rd.int ?_,?_⟩
  rotate_left 2
  .intro z n;simp[aw,resolve,Deferred.ofValue,invoke,i,g,j,h]at n;subst n;exact .inr ⟨_,rfl⟩
  .simp[aw,resolve,Deferred.ofValue,invoke,i,g,j,f]
  .have r:=Lib.indexByte_ge s c;have t:=lN s c;simp only[bA];omega
 .exact bt rfl ay (AK.bw rfl)
def Gz(b:Nat->Int):Nat->List C:=λi=>[.int .u8 (b i)]
def Bytes(b:Nat->Int):Prop:=∀i,0<=b i/\b i<=255
abbrev kZ(m:Nat)(b:Nat->Int)(k:Int):aP:=.cells 90 [.c (.sl af 1 m (Gz b)),.c (.int .i64 k)]
def eb.qM{ι:Type}{f:aJ}{fn:Func}{c:Code}{args:List D}{σ:List aP}{σ':ι->List aP}{res:ι->D}(g:Tryz.prog.funcs[f]?=aa fn)(b:(fn.name== "runtime.NumGoroutine")=af)(d:fn.body=aa c)(a:bu args.length fn.ntmps=ab)(h:Fits args σ->AK X fn.ntmps (λe φ σ1=>∃j,cp fn σ.length (res j) (σ' j) e φ σ1) [.code c] .normal (iZ 0 args) σ):eb X f args σ res σ' :=
 eb.D4 g b d a λi=>AW.top (AK.of_code (h i))
def AK.nL{ι:Type}{fn:Func}{a:Nat}{res:ι->D}{σ':ι->List aP}{N:Nat}{φ:Fr}{σ:List aP}{K:List It}(i:ι)(k:AK X N (cp fn a (res i) (σ' i)) K .normal φ σ):AK X N (λe φ σ1=>∃j,cp fn a (res j) (σ' j) e φ σ1) K .normal φ σ :=
 AK.iK (λ_ _ _ q=>⟨i,q⟩) k
def md(m:Nat)(b:Nat->Int)(k:Nat)(n:Int):Int :=
 if m=0 then 0 else if k<m then b k % n else
  ((b ((k:Int) % m).toNat*131+b (((k:Int)*7+3) % m).toNat*1117+k*29+(k:Int) / m*53).toNat ^^^ ((b ((k:Int) % m).toNat*131+b (((k:Int)*7+3) % m).toNat*1117+k*29+(k:Int) / m*53) / 64).toNat:Nat) % n
set_option maxRecDepth 20000 in
def CZ(m:Nat)(b:Nat->Int)(c:Bytes b)(k:Nat)(n:Int)(hk:k<=4000000)(s:m<=1048576)(o:1<=n/\n<=4000000):
  Ev X 17 [.e (.one (.ptr 0 0)),dI n] [kZ m b k] (dI (md m b k n)) [kZ m b (k+1)]:=by
 refine Ev.bQ Tryz.func17 rfl λi=>?_;have g:∀j,j<([kZ m b k]:List aP).length->([0]:List Nat)[j]?=aa j:=λj y=>by grind
 by_cases d:m=0
 .subst d;refine aX [(17,af),(24,ab)] rfl ?_ (AK.de [0] rfl ?_ rfl rfl rfl g)
  .simp[bA];omega
  .simp[md]
 have f:((k:Int)+1-1)=k:=by omega
 have h:((k:Int)+1-1).toNat=k:=by omega
 have l:=c k;by_cases t:(k:Int)<m
 .refine aX [(17,af),(24,af),(36,ab)] rfl ?_ (AK.de [0] rfl ?_ rfl rfl rfl g)
  .simp only[az,f,b9,ba,bO,eD,bA];omega
  .have:k<m:=by omega
   simp[md,d,this]
 .refine bH [(17,af),(24,af),(36,af)] rfl ?_ (AK.de [0] rfl ?_ rfl rfl rfl g)
  .simp only[az,f,bO,eD,bA];have a:(0:Int)<m:=by omega
   have p:=pV (k:Int) (by omega:(m:Int)≠0);have r:=pR (k:Int) a;have v1:=pV ((k:Int)*7+3) (by omega:(m:Int)≠0);have x:=pR ((k:Int)*7+3) a;have w1:0<=(k:Int) / m:=Int.ediv_nonneg (by omega) (by omega);have w2:(k:Int) / m<=k:=Int.ediv_le_self _ (by omega);generalize(k:Int) % m=u at *;generalize((k:Int)*7+3) % m=v at *;generalize(k:Int) / m=w at *;have q:=c u.toNat;have z:=c v.toNat;grind
  .have:¬k<m:=by omega
   simp[md,d,this,f]
def ux(m:Nat)(b:Nat->Int)(k:Nat)(n:Int)(a:1<=n):0<=md m b k n/\md m b k n<n:=by
 unfold md;split
 .omega
 .split
  .exact⟨pV _ (by omega),pR _ (by omega)⟩
  .exact⟨pV _ (by omega),pR _ (by omega)⟩
def gw(m:Nat)(b:Nat->Int)(c:Bytes b)(k:Nat)(n:Int)(hk:k<=4000000)(d:m<=1048576)(a:1<=n/\n<=4000000):
  eb (ι:={v:Int // 0<=v/\v<n}) X 17 [.e (.one (.ptr 0 0)),dI n] [kZ m b k] (λv=>dI v.1) (λ_=>[kZ m b (k+1)]):=by have h:=CZ (X:=X) m b c k n hk d a;exact⟨h.1,λs vs hr hh S cs hS=>h.2 s vs hr hh S cs (hS ⟨_,ux m b k n a.1⟩)⟩
def S5(es:Nat->List C):Nat->Int:=λi=>xg (es i) 0
def Zq:dt:=λargs σ=>match args,σ with
 |[.e (.one (.ptr 0 0)),.e (.one (.c (.int .i64 n)))],[.cells 90 [.c (.sl af 1 m es),.c (.int .i64 k)]] =>
  aa (dI (md m (S5 es) k.toNat n),[kZ m (S5 es) (k+1)],[k=k.toNat,es=Gz (S5 es),Bytes (S5 es),k<=4000000,m<=1048576,1<=n,n<=4000000])
 |_,_=>ae
def t17:ef X 17 Zq:=by
 intro args σ res σ' obs h d;unfold Zq at h;split at h
 .rename_i n m es k;cases h;obtain⟨g,i,b,f,e,c,a⟩:=d;have:=CZ (X:=X) m (S5 es) b k.toNat n (by omega) e ⟨c,a⟩;grind
 grind
def AZ:∀j,j<1->([0]:List Nat)[j]?=aa j:=λj a=>by grind
set_option maxRecDepth 20000 in
def LO(m:Nat)(b:Nat->Int)(c:Bytes b)(k:Nat)(hk:k<=4000000)(d:m<=1048576)(l:List Bs)(g:1<=l.length/\l.length<=1000):
  eb (ι:={p:Bs // p∈l}) X 89 [.e (.one (.ptr 0 0)),cS.sl l] [kZ m b k] (λp=>dS p.1) (λ_=>[kZ m b (k+1)]):=by
 refine eb.qM Tryz.func89 rfl rfl rfl λf=>?_;refine bt rfl ay ?_;refine AK.cP (gw m b c k l.length hk d (by omega)) [0] rfl (λ_=>rfl) ?_;rintro⟨v,v0,v1⟩;refine bt rfl ?_ ?_
 .simp;omega
 have a:l.getD v.toNat cS.b5∈l:=by grind
 refine AK.nL ⟨l.getD v.toNat cS.b5,a⟩ (AK.de [0] rfl ?_ rfl rfl rfl AZ);simp
def LP:List Bs:=[[],[102],[97,47],[97,98],[97,47,98,47,99],[47,97]]
def LQ:List Bs:=[[97],[98],[99,47,97],[99,47,98],[100,47,97],[101],[97,47,98],[100]]
set_option maxRecDepth 20000 in
def vF(m:Nat)(b:Nat->Int)(c:Bytes b)(k:Nat)(hk:k<=100000)(d:m<=1048576):
  eb (ι:={p:Bs // p.length<=8}) X 43 [.e (.one (.ptr 0 0))] [kZ m b k] (λp=>dS p.1) (λ_=>[kZ m b (k+1+1)]):=by
 refine eb.qM Tryz.func43 rfl rfl rfl λf=>?_;refine bt rfl ay ?_;refine AK.cP (gw m b c k 40 (by omega) d (by omega)) [0] rfl (λ_=>rfl) ?_;rintro⟨v,v0,v1⟩;by_cases h:v=0
 .refine aX [(5,ab)] rfl ?_ ?_
  .simp[h]
  have:=LO (X:=X) m b c (k+1) (by omega) d LP (by decide);refine AK.jL this [0] rfl rfl rfl rfl ?_ rfl rfl rfl (λ_=>rfl) rfl (λ_=>rfl) rfl ?_
  .refine⟨rfl,λi hi=>?_⟩;rcases i with _|_|_|_|_|_|i<;>first|rfl|omega
  rintro⟨p,a⟩;refine bt rfl ay (AK.nL ⟨p,(by decide:∀p∈LP,p.length<=8) p a⟩ (AK.de [0] rfl ?_ rfl rfl rfl AZ));simp
 .refine aX [(5,af)] rfl ?_ ?_
  .simp[h]
  have:=LO (X:=X) m b c (k+1) (by omega) d LQ (by decide);refine AK.jL this [0] rfl rfl rfl rfl ?_ rfl rfl rfl (λ_=>rfl) rfl (λ_=>rfl) rfl ?_
  .refine⟨rfl,λi hi=>?_⟩;rcases i with _|_|_|_|_|_|_|_|i<;>first|rfl|omega
  rintro⟨p,a⟩;refine bt rfl ay (AK.nL ⟨p,(by decide:∀p∈LQ,p.length<=8) p a⟩ (AK.de [0] rfl ?_ rfl rfl rfl AZ));simp
def words:List Bs:=[[97,98,99],[104,101,108,108,111],[119,111,114,108,100],[97,97,97,97],[107,101,101,112],[122,122],[98,97,99,107,117,112],[113]]
abbrev V9(k:Nat):={q:Bs×Nat // q.1.length<=100000/\k<=q.2/\q.2<=k+60}
def GM(s:Bs)(n:Int)(f:s.length<=10)(g:0<=n/\n<=100):eb (ι:={p:Bs // p.length<=100000}) X 90 [dS s,dI n] [] (λp=>dS p.1) (λ_=>[]):=by
 refine eb.qM Tryz.func90 rfl rfl rfl λb=>?_;refine bt rfl ay ?_;refine AK.j3 (λx:Nat×Bs×Bs=>x.1<=100/\x.2.2.length+x.2.1.length*x.1<=1010) (λx=>[(0,dS x.2.1),(1,dI x.1),(5,dS x.2.2)]) (λ_=>[]) (λx=>x.1) (n.toNat,s,[]) rfl ?_ rfl ay ⟨by grind,?_⟩ ?_
 .simp;omega
 .have:s.length*n.toNat<=10*100:=Nat.mul_le_mul f (by omega);grind
 rintro⟨k,t,out⟩ ⟨c,a⟩;simp only at c a;by_cases hk:0<k
 .have j:t.length<=t.length*k:=uX _ hk;have h:((k:Int) / 2)=((k / 2:Nat):Int):=by omega
  by_cases i:k % 2=1
  .have d:(t++t).length*(k / 2)+t.length=t.length*k:=by
    have e:k=2*(k / 2)+1:=by omega
    grind
   refine aX [(7,ab),(10,ab)] rfl ?_ (AK.gf (k / 2,t++t,out++t) rfl ?_ rfl ay ?_ ?_)
   .simp[hk];omega
   .simp
   .grind
   grind
  .have d:(t++t).length*(k / 2)=t.length*k:=by
    have e:k=2*(k / 2):=by omega
    grind
   refine aX [(7,ab),(10,af)] rfl ?_ (AK.gf (k / 2,t++t,out) rfl ?_ rfl ay ?_ ?_)
   .simp[hk];omega
   .simp
   .grind
   grind
 .obtain rfl:k=0:=by omega
  refine aX [(7,af)] rfl (by simp) (AK.leave rfl rfl ?_);exact bt rfl ay (AK.nL ⟨out,by omega⟩ (AK.bw rfl))
set_option maxRecDepth 20000 in
def GN(m:Nat)(b:Nat->Int)(c:Bytes b)(k:Nat)(hk:k<=100000)(d:m<=1048576):
  eb (ι:=V9 k) X 44 [.e (.one (.ptr 0 0))] [kZ m b k] (λq=>dS q.1.1) (λq=>[kZ m b q.1.2]):=by
 refine eb.qM Tryz.func44 rfl rfl rfl λB=>?_;refine bt rfl ay ?_;refine AK.cP (gw m b c k 5 (by omega) d (by omega)) [0] rfl (λ_=>rfl) ?_;rintro⟨v,v0,v1⟩;refine bt rfl ay ?_;refine AK.cz 1 (λs:Nat×Bs×Nat=>s.1<=4/\s.2.1.length+6*s.1<=24/\k<=s.2.2/\s.2.2+s.1<=k+5) (λs=>[(0,.e (.one (.ptr 0 0))),(4,dI s.1),(3,dS s.2.1)]) (λs=>[kZ m b s.2.2]) (λs=>s.1) (v.toNat,[],k+1) rfl ?_ rfl ?_ rfl ⟨by omega,by grind,by simp,by grind⟩ ?_
 .simp;omega
 .simp
 rintro⟨n,s,k1⟩ ⟨G,z,o,E⟩;simp only at G z o E;by_cases j:0<n
 .refine aX [(9,ab)] rfl ?_ ?_
  .simp[j]
  have:=LO (X:=X) m b c k1 (by omega) d words (by decide);refine AK.jL this [0] rfl rfl rfl rfl ?_ rfl rfl rfl (λ_=>rfl) rfl (λ_=>rfl) rfl ?_
  .refine⟨rfl,λi hi=>?_⟩;rcases i with _|_|_|_|_|_|_|_|i<;>first|rfl|omega
  rintro⟨p,h⟩;have H:p.length<=6:=(by decide:∀p∈words,p.length<=6) p h;refine bt rfl ?_ (AK.aQ (n-1,s++p,k1+1) rfl ?_ ?_ ?_ ?_)
  .simp[bA];omega
  .simp;omega
  .simp
  .grind
  grind
 .obtain rfl:n=0:=by omega
  refine aX [(9,af)] rfl (by simp) (AK.leaveD rfl rfl ?_);refine bt rfl ay ?_;refine AK.cP (gw m b c k1 4 (by omega) d (by omega)) [0] rfl (λ_=>rfl) ?_;rintro⟨u,L,J⟩;by_cases l:u=0
  .refine aX [(19,ab)] rfl (by simp[l]) ?_;refine AK.cP (gw m b c (k1+1) 12 (by omega) d (by omega)) [0] rfl (λ_=>rfl) ?_;rintro⟨w,w0,w1⟩;refine bt rfl ay ?_;refine AK.cz 1 (λs:Nat×Bs×Nat=>s.1<=11/\s.2.1.length+s.1<=36/\k<=s.2.2/\s.2.2+s.1<=k+20) (λs=>[(0,.e (.one (.ptr 0 0))),(5,dI s.1),(3,dS s.2.1)]) (λs=>[kZ m b s.2.2]) (λs=>s.1) (w.toNat,s,k1+2) rfl ?_ rfl ?_ rfl ⟨by omega,by grind,by grind,by grind⟩ ?_
   .simp;omega
   .simp;omega
   rintro⟨n,s2,f⟩ ⟨r,t,C,D⟩;simp only at r t C D;by_cases j:0<n
   .refine aX [(23,ab)] rfl ?_ ?_
    .simp[j]
    refine AK.cP (gw m b c f 26 (by omega) d (by omega)) [0] rfl (λ_=>rfl) ?_;rintro⟨x,I,K⟩;refine bt rfl ?_ (AK.aQ (n-1,s2++[UInt8.ofNat (97+x).toNat],f+1) rfl ?_ ?_ ?_ ?_)
    .simp[bA];omega
    .simp;omega
    .simp
    .grind
    grind
   .obtain rfl:n=0:=by omega
    refine aX [(23,af)] rfl (by simp) (AK.leaveD rfl rfl ?_);refine aX [(36,af)] rfl ?_ ?_
    .simp;omega
    refine AK.cP (gw m b c f 60 (by omega) d (by omega)) [0] rfl (λ_=>rfl) ?_;rintro⟨y,A,F⟩;by_cases g:y=0
    .refine aX [(41,ab)] rfl ?_ (AK.nL ⟨(s2++[65],f+1),by grind,by grind,by grind⟩ (AK.de [0] rfl ?_ rfl rfl rfl AZ))
     .simp[g];omega
     .simp
    by_cases a:y=1
    .refine aX [(41,af),(45,ab)] rfl ?_ ?_
     .simp[a]
     refine AK.cP (GM [97,98,99,100,101] 9 (by decide) (by decide)) [] rfl (λ_=>rfl) ?_;rintro⟨p,h⟩;refine bt rfl ay (AK.nL ⟨(p,f+1),h,by grind,by grind⟩ (AK.de [0] rfl ?_ rfl rfl rfl AZ));simp
    .refine aX [(41,af),(45,af)] rfl ?_ (AK.nL ⟨(s2,f+1),by grind,by grind,by grind⟩ (AK.de [0] rfl ?_ rfl rfl rfl AZ))
     .simp[g,a]
     .simp
  .refine qE [(19,af)] 2 rfl (by simp[l]) ?_;refine aX [(36,af)] rfl ?_ ?_
   .simp;omega
   refine AK.cP (gw m b c (k1+1) 60 (by omega) d (by omega)) [0] rfl (λ_=>rfl) ?_;rintro⟨y,A,F⟩;by_cases g:y=0
   .refine aX [(41,ab)] rfl ?_ (AK.nL ⟨(s++[65],(k1+1)+1),by grind,by grind,by grind⟩ (AK.de [0] rfl ?_ rfl rfl rfl AZ))
    .simp[g];omega
    .simp
   by_cases a:y=1
   .refine aX [(41,af),(45,ab)] rfl ?_ ?_
    .simp[a]
    refine AK.cP (GM [97,98,99,100,101] 9 (by decide) (by decide)) [] rfl (λ_=>rfl) ?_;rintro⟨p,h⟩;refine bt rfl ay (AK.nL ⟨(p,(k1+1)+1),h,by grind,by grind⟩ (AK.de [0] rfl ?_ rfl rfl rfl AZ));simp
   .refine aX [(41,af),(45,af)] rfl ?_ (AK.nL ⟨(s,(k1+1)+1),by grind,by grind,by grind⟩ (AK.de [0] rfl ?_ rfl rfl rfl AZ))
    .simp[g,a]
    .simp
def O4(m:Nat)(b:Nat->Int)(f:m<=1048576):eb (ι:={n:Nat // n<=1048576}) X 15 [.e (.one (.c (.sl af 1 m (Gz b))))] [] (λ_=>.e (.one (.ptr 0 0))) (λn=>[kZ n.1 b 0]):=by
 refine eb.qM Tryz.func15 rfl rfl rfl λd=>?_;by_cases h:2000<m
 .refine aX [(5,ab)] rfl ?_ (AK.norm [kZ 2000 b 0] rfl ?_ (AK.nL ⟨2000,by decide⟩ (AK.de [0] rfl ?_ rfl rfl rfl (λj a=>by grind))))
  .simp;omega
  .simp[cv,lZ,dc]
  .simp
 .refine aX [(5,af)] rfl ?_ (AK.nL ⟨m,f⟩ (AK.de [0] rfl ?_ rfl rfl rfl (λj a=>by grind)))
  .simp;omega
  .simp
def Tl:∀j,j<1->([0]:List Nat)[j]?=aa j:=by decide
def uD:∀j,j<2->([0,1]:List Nat)[j]?=aa j:=by decide
def s8:List bn->List ah
 |[]=>[]
 |x::r=>.int .i64 x.1::Bj x.2::s8 r
def j0(l:List bn):Prop:=∀x∈l,bA .i64 x.1/\x.2.length<=9223372036854775807
theorem vG:∀l:List bn,(s8 l).length=l.length*2
 |[]=>rfl
 |x::r=>by simp only[s8,eU,vG r];omega
def Mp:∀{l:List bn}{i:Nat},i<l.length->(s8 l)[i*2]?=aa (.int .i64 (l.getD i (0,[])).1)/\(s8 l)[i*2+1]?=aa (Bj (l.getD i (0,[])).2)
 |[],i,h=>absurd h (fL _)
 |x::r,0,_=>⟨rfl,rfl⟩
 |x::r,i+1,h=>by rw[show(i+1)*2=i*2+1+1 by omega];exact Mp (l:=r) (i:=i) (by grind)
def A9:∀l r:List bn,s8 (l++r)=s8 l++s8 r
 |[],r=>rfl
 |x::l,r=>by simp only[rM,s8,A9 l r]
theorem GU:∀(l:List bn)(i:Nat)(y:bn),i<l.length->s8 (l.set i y)=(s8 l).take (i*2)++[.int .i64 y.1,Bj y.2]++(s8 l).drop (i*2+2)
 |[],i,y,h=>absurd h (fL _)
 |x::l,0,y,_=>by simp[s8]
 |x::l,i+1,y,h=>by rw[List.set_cons_succ,s8,GU l i y (by grind),s8,show(i+1)*2=i*2+1+1 by omega,show i*2+1+1+2=(i*2+2)+1+1 by omega];simp
theorem xS{l:List bn}(h:j0 l):gi 2 l.length (dO.fn l) (s8 l):=by
 refine⟨vG l,λi _=>rfl,λi hi j c a=>?_⟩;obtain⟨f,d⟩:=Mp hi;obtain⟨b,q2⟩:=h (l.getD i (0,[])) (by grind);have e:dO.fn l i=[.int .i64 (l.getD i (0,[])).1,.str (l.getD i (0,[])).2]:=rfl;rw[e]at a
 match j,a with
 |0,a=>cases a;exact⟨_,f,λM=>Rd.int b⟩
 |1,a=>cases a;exact⟨_,d,λM=>Rd.str (by grind) q2⟩
abbrev uW(v:ah):D:=.e (.one (.c (.val v)))
abbrev hB(bf:m9)(n:Nat)(l:List bn):aP:=.b8 (fQ 66 2 bf n (s8 l))
abbrev cB(g:Nat)(bf:m9)(n:Nat):aP:=.b8 (dJ g 170 (k9 bf n))
abbrev TY(x:bn):D:=.e (.one (.c (.FH 66 [.int .i64 x.1,.str x.2])))
abbrev Xo(x:bn):D:=.e (.agg [.c (.int .i64 x.1),.c (.str x.2)])
theorem Tm{x:bn}{vs:List ah}(h:mX vs [.c (.int .i64 x.1),.c (.str x.2)]):vs=[.int .i64 x.1,Bj x.2]:=by
 obtain⟨g,a⟩:=h
 match vs,g with
 |[u,v],_ =>
  obtain⟨i,b,q2⟩:=a 0 _ rfl;obtain⟨v',e,q4⟩:=a 1 _ rfl;cases b;cases e;have d:=q2 λ_ _=>ae;have f:=(str_val (q4 λ_ _=>ae)).1;cases d;rw[f]
def Tn{o:au}{x y:ak}(h:o.op=.call {callee:=.builtin .append,args:=#[x,y],argTypes:=#[170,170]}):lz ag o x y 66 i66 :=
 ⟨⟨170,170,i170,i170,h,(tok _ _ rfl),rfl,(tok _ _ rfl),rfl⟩,(tok _ _ rfl),by decide,by decide⟩
def Ba(bf:m9)(n:Nat)(l:List bn):Ev X 120 [uW (k9 bf n)] [hB bf n l] (dI n) [hB bf n l]:=by refine Ev.bQ Tryz.func120 rfl λa=>?_;refine qE [] 7 rfl ay ?_;refine AK.Nx tok 0 rfl rfl rfl rfl rfl rfl rfl rfl ?_;exact bt rfl ay (AK.de [0] rfl rfl rfl rfl rfl Tl)
def xT(b cap:Nat){l:List bn}(d:j0 l)(m:Nat){i j:Nat}(hi:i<l.length)(c:j<l.length):Ev X 263 [uW (k9 (.row b cap) l.length),dI i,dI j] [hB (.row b cap) l.length l] (dB (decide ((l.getD i (0,[])).1<(l.getD j (0,[])).1))) [hB (.row b cap) l.length l]:=by
 refine Ev.bQ Tryz.func263 rfl λe=>?_
 have a:=xS d;refine aX [(1000001,ab)] rfl ay ?_;refine AK.calm ja [uW (k9 (.row b cap) l.length),dI i,uW (.pointer (aa ⟨b,0+(i:Int).toNat*2,ae⟩)),uW (.pointer (aa ⟨b,0+(i:Int).toNat*2+0,ae⟩)),dI (l.getD i (0,[])).1,uW (k9 (.row b cap) l.length),dI j,uW (.pointer (aa ⟨b,0+(j:Int).toNat*2,ae⟩)),uW (.pointer (aa ⟨b,0+(j:Int).toNat*2+0,ae⟩)),dI (l.getD j (0,[])).1,dB (decide ((l.getD i (0,[])).1<(l.getD j (0,[])).1))] 10 rfl rfl rfl rfl rfl ⟨
  OA.cT tok bE.nil rfl,OA.cT tok bE.nil rfl,OA.eval (ds:=[]) tok bE.nil rfl (by simp only[az,aE];omega),OA.cT tok bE.nil rfl,
  OA.kQ (fD rfl) (bF.B7 (l:=0) (i:=i) (f:=0) tok rfl rfl (by simp) rfl a rfl rfl hi),
  OA.cT tok bE.nil rfl,OA.cT tok bE.nil rfl,OA.eval (ds:=[]) tok bE.nil rfl (by simp only[az,aE];omega),OA.cT tok bE.nil rfl,
  OA.kQ (fD rfl) (bF.B7 (l:=0) (i:=j) (f:=0) tok rfl rfl (by simp) rfl a rfl rfl c),
  OA.cT tok bE.nil rfl,ay⟩ ?_
 exact bt rfl ay (AK.de [0] rfl rfl rfl rfl rfl Tl)
def GV{N off n:Nat}{all:List au}{o:au}{φ:Fr}{t:aj}{x y:ak}{b cap i:Nat}{l:List bn}{v:bn}(h:o.op=.store t x y)(g:bD tt t=aa i66)(d:off=i*2)(f:bM φ x=.e (.one (.v (.pointer (aa ⟨b,off,ae⟩)))))(a:kn (bM φ y)=aa [.c (.int .i64 v.1),.c (.str v.2)])(m:l.length=n)(hi:i<l.length)(j:o.guard=ae):
  OA X N all o φ [hB (.row b cap) n l] .any [hB (.row b cap) n (l.set i v)]:=by subst d;have p:=dN.zC (N:=N) (σ:=[hB (.row b cap) n l]) tok 0 (E:=66) (k:=2) (n:=n) (b:=b) (cap:=cap) (off:=i*2) (xs:=s8 l) h g f a rfl rfl rfl (by grind[vG]);grind[Tm,GU,OA.wJ]
abbrev swS(b cap:Nat)(l:List bn)(i j:Nat)(x y:Bool):List aP:=match x with
 |false=>[hB (.row b cap) l.length l]
 |true=>match y with
  |false=>[hB (.row b cap) l.length (l.set i (l.getD j (0,[])))]
  |true=>[hB (.row b cap) l.length (mm l i j)]
def xU(b cap:Nat){l:List bn}(d:j0 l){i j:Nat}(hi:i<l.length)(e:j<l.length):Ev X 266 [uW (k9 (.row b cap) l.length),dI i,dI j] [hB (.row b cap) l.length l] (.eX []) [hB (.row b cap) l.length (mm l i j)]:=by
 refine Ev.bQ Tryz.func266 rfl λg=>?_;have a:=xS d;refine aX [(1000000,ab)] rfl ay ?_;let xs:Nat->D:=λk=>([uW (k9 (.row b cap) l.length),dI i,uW (k9 (.row b cap) l.length),dI j,uW (k9 (.row b cap) l.length),dI j,uW (.pointer (aa ⟨b,0+(j:Int).toNat*2,ae⟩)),Xo (l.getD j (0,[])),uW (k9 (.row b cap) l.length),dI i,uW (.pointer (aa ⟨b,0+(i:Int).toNat*2,ae⟩)),Xo (l.getD i (0,[])),uW (.pointer (aa ⟨b,0+(i:Int).toNat*2,ae⟩)),.any,uW (.pointer (aa ⟨b,0+(j:Int).toNat*2,ae⟩))]:List D).getD k .any
 refine AK.flags ja xs (wY (swS b cap l i j) 13 15) rfl rfl rfl rfl ⟨
  .Qe tok bE.nil,.Qe tok bE.nil,.Qe tok bE.nil,.Qe tok bE.nil,.Qe tok bE.nil,.Qe tok bE.nil,
  .U4 tok bE.nil,
  dW.fw rfl rfl rfl rfl (OA.kQ (fD rfl) (bF.B7 (l:=0) (i:=j) (f:=0) tok rfl rfl (by simp) rfl a rfl rfl e)),
  .Qe tok bE.nil,.Qe tok bE.nil,
  .U4 tok bE.nil,
  dW.fw rfl rfl rfl rfl (OA.kQ (fD rfl) (bF.B7 (l:=0) (i:=i) (f:=0) tok rfl rfl (by simp) rfl a rfl rfl hi)),
  .U4 tok bE.nil,
  dW.sA rfl rfl ?_,
  .U4 tok bE.nil,
  dW.sB rfl rfl ?_,ay⟩ ?_
 .exact GV rfl rfl (by simp) rfl rfl rfl hi rfl
 .exact GV rfl rfl (by simp) rfl rfl (by simp) (by grind) rfl
 intro D c;show AK X _ _ _ _ _ (swS b cap l i j (D 13) (D 15));rw[c 13 (by decide),c 15 (by decide)];exact cp.pv [0] rfl ay rfl rfl rfl Tl
def Mq(g:Nat)(bf:m9){l:List bn}(p:j0 l)(o:l.length<=1000){x:bn}(r:x.2.length<=9223372036854775807):
  eb (ι:=m9) X 265 [uW (.pointer (aa ⟨g,0,ae⟩)),TY x] [cB g bf l.length,hB bf l.length l] (λ_=>.eX []) (λa=>[cB g a (l.length+1),hB a (l.length+1) (l++[x])]):=by
 refine eb.qM Tryz.func265 rfl rfl rfl λq=>?_;refine aX [(1000000,ab)] rfl ay ?_;have f:=ni bf l.length;refine AK.Kc (ι:=m9) ja 7 8 10 (λk=>bu k 6) (λk=>([uW (.pointer (aa ⟨g,0,ae⟩)),uW (.pointer (aa ⟨g,0,ae⟩)),uW (.pointer (aa ⟨g,0,ae⟩)),uW (k9 bf l.length),TY x,Xo x,.e (.one (.c (.sl ab 2 1 λi=>([[.int .i64 x.1,.str x.2]]:List (List C)).getD i [])))]:List D).getD k .any) (λa _=>uW (k9 a (l.length+1))) (λa=>[cB g bf l.length,.b8 (fQ 66 2 a (l.length+1) (s8 l++[.int .i64 x.1,Bj x.2]))])
  rfl rfl rfl rfl rfl rfl rfl (λk h=>by have:=cV h;omega) rfl
  ⟨OA.cT tok bE.nil rfl,OA.cT tok bE.nil rfl,OA.kQ (fD rfl) (bF.B6 rfl rfl),OA.yG tok 0 rfl rfl rfl rfl rfl f rfl,OA.cT tok bE.nil rfl,OA.kQ (fD rfl) (bF.Aj (cs:=[.int .i64 x.1,.str x.2]) tok rfl rfl rfl rfl),OA.cT tok bE.nil rfl,ay,ay,ay,ay⟩
  (λa=>⟨OA.cT tok bE.nil rfl,OA.cT tok bE.nil rfl,OA.kQ (fD rfl) (bF.B6 rfl rfl),OA.yG tok 0 rfl rfl rfl rfl rfl f rfl,OA.cT tok bE.nil rfl,OA.kQ (fD rfl) (bF.Aj (cs:=[.int .i64 x.1,.str x.2]) tok rfl rfl rfl rfl),OA.cT tok bE.nil rfl,ay,ay⟩)
  (mE.wJ rfl (dN.oh (l:=1) (bf:=bf) (xs:=s8 l) (n:=l.length) (xv:=[.int .i64 x.1,Bj x.2]) (Tn rfl) rfl rfl rfl rfl rfl (λM v j c b m=>?_) (by show _*24<=_;omega))) λa=>?_
 .match j,b with
  |0,b=>cases b;cases m;exact⟨rfl,rfl⟩
  |1,b=>grind[str_val]
 have d:=ni a (l.length+1);refine AK.law (bF.B6 rfl rfl) rfl rfl ?_;refine AK.Kk tok 0 rfl rfl rfl rfl rfl (by cases a<;>rfl) d rfl rfl rfl ?_;refine bt rfl ay ?_;refine⟨a,cp.pv [0,1] rfl ay ?_ rfl rfl uD⟩;show aa [_,aP.b8 (fQ _ _ _ _ (s8 l++_))]=aa [_,aP.b8 (fQ _ _ _ _ (s8 (l++[x])))];rw[A9];rfl
def fQ.cut{E:aj}{b cap:Nat}{l:List bn}{x:bn}{v:ah}{ch:Nat->Option Obj}(h:fQ E 2 (.row b cap) (l.length+1) (s8 (l++[x])) v ch):fQ E 2 (.row b cap) l.length (s8 l) v ch:=by
 obtain⟨h1,h2,g,f,d,c,i,e⟩:=h;rw[A9]at *;refine⟨h1,λy a=>h2 y (List.mem_append_left _ a),vG l,by omega,d,s8 [x]++c,?_,?_⟩
 .grind
 grind
def Pq(g b cap:Nat){l:List bn}{x:bn}(j:j0 (l++[x]))(d:l.length<=1000)(a:l.length+1<=cap):
  Ev X 264 [uW (.pointer (aa ⟨g,0,ae⟩))] [cB g (.row b cap) (l.length+1),hB (.row b cap) (l.length+1) (l++[x])] (TY x) [cB g (.row b cap) l.length,hB (.row b cap) l.length l]:=by
 refine Ev.bQ Tryz.func264 rfl λk=>?_;have c:gi 2 (l.length+1) (dO.fn (l++[x])) (s8 (l++[x])):=by grind[xS,List.length_append]
 refine bt rfl ay ?_;refine AK.law (bF.B6 rfl rfl) rfl rfl ?_;refine AK.one (OA.yG tok 0 rfl rfl rfl rfl rfl rfl rfl) rfl ?_;refine bt rfl (by simp only[az,bA,aE];omega) ?_;refine AK.law (bF.B6 rfl rfl) rfl rfl ?_;refine AK.one (OA.yG tok 0 rfl rfl rfl rfl rfl rfl rfl) rfl ?_;refine bt rfl (by simp only[az,bA,aE];omega) ?_;refine AK.law (bF.B7 (l:=1) (i:=l.length) (f:=0) tok rfl rfl (by simp[show i66.size=2 from rfl]) rfl c rfl rfl (by simp)) rfl rfl ?_;refine bt rfl ay ?_;refine AK.law (bF.B6 rfl rfl) rfl rfl ?_;refine AK.one (OA.yG tok 0 rfl rfl rfl rfl rfl rfl rfl) rfl ?_;refine bt rfl ay ?_;refine AK.law (bF.RP tok rfl rfl rfl rfl rfl rfl a (by omega) (by omega)) rfl rfl ?_;rw[show(((l.length+1:Nat):Int)-1).toNat=l.length from by omega];refine AK.law (bF.B6 rfl rfl) rfl rfl ?_;refine AK.Kk tok 0 rfl rfl rfl rfl rfl rfl rfl rfl rfl rfl ?_;refine qE [] 2 rfl ay ?_;refine AK.Nv (ι:=Unit) 1 (λ_=>fQ 66 2 (.row b cap) l.length (s8 l)) rfl (λv e h=>⟨(),fQ.cut h⟩) λ_=>?_;refine bt rfl ay (AK.de [0,1] rfl ?_ rfl rfl rfl uD);simp
abbrev TZ(g:Nat):D:=.e (.one (.c (.ifs 169 (.val (.pointer (aa ⟨g,0,ae⟩))))))
section
variable {σ:List aP}{l g n:Nat}{bf:m9}(a:du l σ=aa (cB g bf n))
include a
def Ws:qJ ag σ 169 (.pointer (aa ⟨g,0,ae⟩)) "Len" 120 (k9 bf n):=.deref tok (ey Tryz.type169) rfl rfl rfl Tryz.underlying169 a rfl (ni bf n) rfl
def Mr:qJ ag σ 169 (.pointer (aa ⟨g,0,ae⟩)) "Less" 263 (k9 bf n):=.deref tok (ey Tryz.type169) rfl rfl rfl Tryz.underlying169 a rfl (ni bf n) rfl
def Ms:qJ ag σ 169 (.pointer (aa ⟨g,0,ae⟩)) "Swap" 266 (k9 bf n):=.deref tok (ey Tryz.type169) rfl rfl rfl Tryz.underlying169 a rfl (ni bf n) rfl
end
def Wt{σ:List aP}{v:ah}:qJ ag σ 169 v "Push" 265 v:=.ptr (ey Tryz.type169) rfl rfl rfl Tryz.underlying169
def ZF{σ:List aP}{v:ah}:qJ ag σ 169 v "Pop" 264 v:=.ptr (ey Tryz.type169) rfl rfl rfl Tryz.underlying169
theorem tZ{l:List bn}(h:j0 l){i j:Nat}(hi:i<l.length)(b:j<l.length):j0 (mm l i j):=λx c=>h x (OI hi b c)
theorem xV:∀(f:Nat)(l:List bn)(j:Nat),j<f->x0 f l j=x0 (j+1) l j
 |0,_,_,h=>absurd h (fL _)
 |f+1,l,j,h=>by
  rw[x0,x0];by_cases b:(j-1) / 2=j
  .grind
  .rw[aZ b,aZ b];split
   .have c:(j-1) / 2<j:=by omega
    rw[xV f _ _ (by omega),xV j _ _ c]
   .rfl
def To(g b cap:Nat){l:List bn}(a:j0 l)(x:l.length<=1000){j:Nat}(v:j<l.length):
  Ev X 144 [TZ g,dI j] [cB g (.row b cap) l.length,hB (.row b cap) l.length l] (.eX []) [cB g (.row b cap) l.length,hB (.row b cap) l.length (x0 (j+1) l j)]:=by
 refine Ev.bQ Tryz.func144 rfl λy=>?_;refine qE [] 3 rfl ay ?_;refine AK.sq 2 [0] (λq:List bn×Nat=>j0 q.1/\q.1.length=l.length/\q.2<l.length/\x0 (j+1) l j=x0 (q.2+1) q.1 q.2) (λq=>[(1,dI q.2)]) (λq=>[cB g (.row b cap) q.1.length,hB (.row b cap) q.1.length q.1]) (λq=>q.2) (l,j) rfl ?_ rfl ?_ rfl ⟨a,rfl,v,rfl⟩ ?_
 .simp
 .simp
 rintro⟨q,i⟩ ⟨r,p,t,d⟩;simp only at r p t d;cases i with
 |zero =>
  have e:x0 (0+1) q 0=q:=by rw[x0,bl rfl]
  rw[e]at d;rw[d];refine qE [] 5 rfl (by simp[bA]) ?_;refine AK.law (El (k:=.i64) 0 rfl rfl rfl (by simp[bA]) (λw=>rfl) (λw=>rfl)) rfl rfl ?_;refine aX [(11,ab),(17,ab)] rfl (by simp) (AK.leaveD rfl rfl ?_);exact cp.pv [0,1] rfl ay (by rw[<-p];rfl) rfl rfl uD
 |succ i =>
  refine aX [(11,af),(1000001,ab)] rfl (by simp only[az,bA];omega) ?_;have s:(((i+1:Nat):Int)-1) / 2=((i / 2:Nat):Int):=by omega
  rw[s];have u:(i+1-1) / 2=i / 2:=by grind
  have m:i / 2<q.length:=by omega
  have c:i+1<q.length:=by omega
  have e:x0 (i+1+1) q (i+1)=if nG q (i+1) (i / 2)=ab then x0 (i+1) (mm q (i / 2) (i+1)) (i / 2)else q:=by rw[x0,aZ (by omega),u]
  rw[e]at d;refine AK.region ?_;refine aX [(11,af)] rfl (by simp only[az,eD,dr,aE];omega) ?_;refine AK.kD (xT b cap r q.length c m).te [1] (Mr (l:=0) rfl) rfl rfl rfl rfl rfl rfl rfl rfl (λ_=>rfl) rfl (λ_=>rfl) rfl λ_=>?_;by_cases o:nG q (i+1) (i / 2)=ab
  .rw[bl o]at d;have f:=oY o;refine aX [(17,af)] rfl (by simpa using f) ?_;refine AK.kD (xU b cap r m c).te [1] (Ms (l:=0) rfl) rfl rfl rfl rfl rfl rfl rfl rfl (λ_=>rfl) rfl (λ_=>rfl) rfl λ_=>?_;refine bt rfl ay (AK.aQ (mm q (i / 2) (i+1),i / 2) rfl ?_ ?_ ?_ ?_)
   .simp
   .simp[fS]
   .grind [tZ,fS,xV]
   grind
  .rw[aZ o]at d;rw[d];have f:¬(q.getD (i+1) (0,[])).1<(q.getD (i / 2) (0,[])).1:=λh=>o (db h);refine aX [(17,ab)] rfl (by simpa using f) (AK.leaveD rfl rfl ?_);exact cp.pv [0,1] rfl ay (by rw[<-p];rfl) rfl rfl uD
def Mt{σ:List aP}{i n:Nat}{bf:m9}{l:List bn}(h:du i σ=aa (hB bf n l))(e:0<n)(s:St)(d:aF σ s):∃b cap,bf=.row b cap/\n<=cap:=by
 have a:=bZ h;obtain⟨b,cap,rfl⟩:=(fQ.len a s d).2.2.1 e;have c:i<s.β.length:=by rw[d.len];grind
 obtain⟨j,f,_⟩:=d.box i _ _ a (br c);exact⟨b,cap,rfl,f.2.2.2.1⟩
def Dd(g:Nat)(bf:m9){l:List bn}(a:j0 l)(p:l.length<=100){x:bn}(o:bA .i64 x.1/\x.2.length<=9223372036854775807):
  eb (ι:=m9) X 118 [TZ g,TY x] [cB g bf l.length,hB bf l.length l] (λ_=>.eX []) (λc=>[cB g c (l.length+1),hB c (l.length+1) (gQ l x)]):=by
 refine eb.qM Tryz.func118 rfl rfl rfl λq=>?_;refine bt rfl ay ?_;refine AK.kD (Mq g bf a (by omega) o.2) [0,1] Wt rfl rfl rfl rfl rfl rfl rfl rfl (λ_=>rfl) rfl (λ_=>rfl) rfl λc=>?_;have d:j0 (l++[x]):=λy k=>by
  rcases fY.1 k with h|h
  .exact a y h
  grind
 refine AK.Jg (Mt (i:=1) (n:=l.length+1) (bf:=c) (l:=l++[x]) rfl (by omega)) λm=>?_;obtain⟨b,cap,rfl,f⟩:=m;refine bt rfl ay ?_;refine AK.kD (Ba (.row b cap) (l.length+1) (l++[x])).te [1] (Ws (l:=0) rfl) rfl rfl rfl rfl rfl rfl rfl rfl (λ_=>rfl) rfl (λ_=>rfl) rfl λ_=>?_;refine bt rfl (by simp only[az,bA];omega) ?_;rw[show((l.length+1:Nat):Int)-1=(l.length:Nat) by omega];have e:=To (X:=X) g b cap d (by grind) (j:=l.length) (by simp);rw[cX,jh]at e;refine AK.cQ e [0,1] rfl ?_;refine bt rfl ay ?_;exact⟨.row b cap,cp.pv [0,1] rfl ay rfl rfl rfl uD⟩
theorem sT:∀(f g:Nat)(l:List bn)(i n:Nat),n<=i+f->n<=i+g->gF f l i n=gF g l i n
 |0,0,_,_,_,_,_=>rfl
 |0,g+1,l,i,n,h,_=>by rw[gF,gF,bl (by omega)]
 |f+1,0,l,i,n,_,h=>by rw[gF,gF,bl (by omega)]
 |f+1,g+1,l,i,n,c,b=>by
  have hk:i<nH l i n:=by unfold nH;split<;>omega
  rw[gF,gF];split
  .rfl
  .split
   .exact sT f g _ _ _ (by omega) (by omega)
   .rfl
def Mv(g b cap n:Nat){l:List bn}(a:j0 l)(z:n<=l.length)(B:l.length<=1000):
  Ev X 147 [TZ g,dI 0,dI n] [cB g (.row b cap) l.length,hB (.row b cap) l.length l] .any [cB g (.row b cap) l.length,hB (.row b cap) l.length (gF n l 0 n)]:=by
 refine Ev.bQ Tryz.func147 rfl λA=>?_;refine c8 rfl ay ?_;refine AK.sq 2 [0,1,2] (λq:List bn×Nat=>j0 q.1/\q.1.length=l.length/\q.2<=n/\gF n l 0 n=gF n q.1 q.2 n) (λq=>[(7,dI q.2)]) (λq=>[cB g (.row b cap) q.1.length,hB (.row b cap) q.1.length q.1]) (λq=>n-q.2) (l,0) rfl ?_ rfl ?_ rfl ⟨a,rfl,by omega,rfl⟩ ?_
 .simp
 .simp
 rintro⟨q,i⟩ ⟨p,r,v,d⟩;simp only at p r v d;by_cases u:n<=2*i+1
 .have e:gF n q i n=q:=by rw[sT n (n+1) _ _ _ (by omega) (by omega),gF,bl u]
  rw[e]at d;rw[d];refine aX [(17,ab),(21,ab)] rfl (by simp only[az,bA,ba,aG,aE];omega) (AK.leaveD rfl rfl ?_);refine bt rfl ay (AK.de [0,1] rfl ay (by rw[<-r];rfl) rfl rfl uD)
 have hk:i<nH q i n/\nH q i n<n:=by unfold nH;split<;>omega
 have e:gF n q i n=if nG q (nH q i n) i=ab then gF n (mm q i (nH q i n)) (nH q i n) n else q:=by rw[sT n (n+1) _ _ _ (by omega) (by omega),gF,aZ u]
 rw[e]at d;have s:2*i+1<q.length:=by omega
 have m:i<q.length:=by omega
 have v1:2*(i:Int)+1=((2*i+1:Nat):Int):=by omega
 have x:((2*i+1:Nat):Int)+1=((2*i+2:Nat):Int):=by omega
 refine aX [(17,af),(21,af),(1000004,ab)] rfl (by simp only[az,bA,bO,aG,aE];omega) ?_;rw[v1];refine aX [(1000006,ab)] rfl (by simp only[az,bA,bO,aG,aE];omega) ?_;rw[x];apply AK.join [(0,TZ g),(1,dI 0),(2,dI n),(7,dI i),(9,dI (nH q i n))] [cB g (.row b cap) q.length,hB (.row b cap) q.length q]
 .intro out;by_cases t:2*i+2<n
  .refine AK.region ?_;refine aX [(28,ab)] rfl (by simp only[az,ba,aE];omega) ?_;refine AK.kD (xT b cap p q.length (i:=2*i+2) (j:=2*i+1) (by omega) s).te [1] (Mr (l:=0) rfl) rfl rfl rfl rfl rfl rfl rfl rfl (λ_=>rfl) rfl (λ_=>rfl) rfl λ_=>?_;by_cases c:nG q (2*i+2) (2*i+1)=ab
   .have o:nH q i n=2*i+2:=bl ⟨t,c⟩;refine aX [(33,ab),(1000008,ab)] rfl (by simpa using oY c) (out _ _ rfl ?_);simp[o]
   .have o:nH q i n=2*i+1:=aZ λh=>c h.2;have f:¬(q.getD (2*i+2) (0,[])).1<(q.getD (2*i+1) (0,[])).1:=λh=>c (db h);refine aX [(33,af),(1000008,ab)] rfl (by simpa using f) (out _ _ rfl ?_);simp[o]
  .have o:nH q i n=2*i+1:=aZ λh=>t h.1;refine aX [(28,af),(33,af),(1000008,ab)] rfl (by simp only[az,bO,aG,aE];omega) (out _ _ rfl ?_);simp[o]
 generalize nH q i n=k at *;obtain⟨w,y⟩:=hk;refine AK.region ?_;refine bt rfl ay ?_;refine AK.kD (xT b cap p q.length (i:=k) (j:=i) (by omega) m).te [1] (Mr (l:=0) rfl) rfl rfl rfl rfl rfl rfl rfl rfl (λ_=>rfl) rfl (λ_=>rfl) rfl λ_=>?_;by_cases c:nG q k i=ab
 .rw[bl c]at d;refine aX [(39,af)] rfl (by simpa using oY c) ?_;refine AK.kD (xU b cap p m (show k<q.length by omega)).te [1] (Ms (l:=0) rfl) rfl rfl rfl rfl rfl rfl rfl rfl (λ_=>rfl) rfl (λ_=>rfl) rfl λ_=>?_;refine bt rfl ay (AK.aQ (mm q i k,k) rfl ?_ ?_ ?_ ?_)
  .simp
  .simp[fS]
  .grind [tZ,fS]
  grind
 .rw[aZ c]at d;rw[d];have f:¬(q.getD k (0,[])).1<(q.getD i (0,[])).1:=λh=>c (db h);refine aX [(39,ab)] rfl (by simpa using f) (AK.leaveD rfl rfl ?_);refine bt rfl ay (AK.de [0,1] rfl ay (by rw[<-r];rfl) rfl rfl uD)
def xX{n:Nat}:∀(f:Nat){l:List bn}(i:Nat),j0 l->i<l.length->n<=l.length->j0 (gF f l i n)
 |0,_,_,h,_,_=>h
 |f+1,l,i,h,hi,b=>by
  rw[gF];split
  .exact h
  .have hk:nH l i n<n:=by unfold nH;split<;>omega
   split
   .exact xX f _ (tZ h hi (by omega)) (by grind[fS]) (by grind[fS])
   grind
def E9(g b cap:Nat){l:List bn}{n:Nat}(a:j0 l)(m:l.length=n+1)(q:n<=100)(f:n+1<=cap):
  Ev X 121 [TZ g] [cB g (.row b cap) (n+1),hB (.row b cap) (n+1) l] (TY ((kt l).getD n (0,[]))) [cB g (.row b cap) n,hB (.row b cap) n ((kt l).take n)]:=by
 refine Ev.bQ Tryz.func121 rfl λs=>?_;refine bt rfl ay ?_;refine AK.kD (Ba (.row b cap) (n+1) l).te [1] (Ws (l:=0) rfl) rfl rfl rfl rfl rfl rfl rfl rfl (λ_=>rfl) rfl (λ_=>rfl) rfl λ_=>?_;refine bt rfl (by simp only[az,bA,aE];omega) ?_;rw[show((n+1:Nat):Int)-1=((n:Nat):Int) by omega];have o:=xU (X:=X) b cap a (i:=0) (j:=n) (by omega) (by omega);rw[m]at o;refine AK.kD o.te [1] (Ms (l:=0) rfl) rfl rfl rfl rfl rfl rfl rfl rfl (λ_=>rfl) rfl (λ_=>rfl) rfl λ_=>?_;have d:=tZ a (i:=0) (j:=n) (by omega) (by omega);have h:=Mv (X:=X) g b cap n d (by grind[fS]) (by grind[fS]);have c:=xX (n:=n) n 0 d (by grind[fS]) (by grind[fS]);have e:gF n (mm l 0 n) 0 n=kt l:=by unfold kt;grind[sT]
 rw[fS,m,e]at h;rw[e]at c;have p:kt l=(kt l).take n++[(kt l).getD n (0,[])]:=by
  have t:(kt l).length=n+1:=by grind[Cv]
  apply rL
  .grind
  grind
 generalize(kt l).getD n (0,[])=x at *;have k:((kt l).take n).length=n:=by grind
 generalize(kt l).take n=r at *;rw[p]at h c;subst k;refine bt rfl ay ?_;refine AK.cQ h [0,1] rfl ?_;refine bt rfl ay ?_;refine AK.kD (Pq g b cap c (by omega) f).te [0,1] ZF rfl rfl rfl rfl rfl rfl rfl rfl (λ_=>rfl) rfl (λ_=>rfl) rfl λ_=>?_;refine bt rfl ay (AK.de [0,1] rfl (by simp) rfl rfl rfl uD)
def PL{P:ar}{o:au}{m:ak->D}{σ:List aP}{op:BinOp}{t ty T:aj}{v:ah}{x y:ak}(h:o.op=.binOp op t x y ty){c:Bool}{u:Array (String×aj)}(p:P.underlying t=aa (.interface u))(z:m x=.e (.one (.c .iy)))(r:m y=.e (.one (.c (.val (.iface T v)))))(b:∀w,(eqGuard op t x y .nilIface (.iface T v)).run P w=.ok () w)(j:∀w es,(eqGuard op t x y .nilIface (.iface T v)).events P w es=es)(l:jb op af=aa c):bF P o m σ (.e (.one (.c (.bool c)))) σ:=by
 refine .quiet λs n A q=>?_;have g:=q x;have i:=q y;rw[z]at g;rw[r]at i;replace g:=eT g;replace i:=eT i;generalize a:n x=vx at g;generalize d:n y=vy at i;cases g;cases i;have k:(Op.equal t .nilIface (.iface T v)).run P s.w=.ok af s.w:=by show(aY (9999+1) t _ _).run P s.w=_;unfold aY;simp[underlying,p]
 have f:∀es,(Op.equal t .nilIface (.iface T v)).events P s.w es=es:=λes=>by show(aY (9999+1) t _ _).events P s.w es=es;unfold aY;simp[underlying,p]
 cases op<;>simp only[jb,reduceCtorEq,dn]at l
 .subst l;exact⟨.bool af,by simp[aw,h,a,d,b,binOp,k],Rd.bool,by simp[aw,h,a,d,b,j,binOp,k,f]⟩
 .subst l;exact⟨.bool ab,by simp[aw,h,a,d,b,binOp,k],Rd.bool,by simp[aw,h,a,d,b,j,binOp,k,f]⟩
abbrev dGv(v:ah):D:=.e (.one (.c (.val v)))
def Dp(T:aj)(v:ah):Ev X 82 [.e (.one (.c .iy)),dGv (.iface T v)] [] (dB af) []:=by refine Ev.bQ Tryz.func82 rfl λa=>?_;refine bt rfl ay ?_;refine AK.law (Eo rfl Tryz.underlying57 rfl rfl rfl) rfl rfl ?_;refine aX [(11,ab)] rfl (by simp) ?_;refine AK.law (PL rfl Tryz.underlying57 rfl rfl (λ_=>rfl) (λ_ _=>rfl) rfl) rfl rfl ?_;exact bt rfl ay (AK.bw rfl rfl)
abbrev GB(a b:aj×ah):List aP:=[.b8 (dJ 1 57 (.iface a.1 a.2)),.b8 (dJ 2 57 (.iface b.1 b.2))]
def A8:∀j,j<2->([0,1]:List Nat)[j]?=aa j:=by decide
def tY(a b:aj×ah)(k:Int)(p:Bs)(hk:cd k=ab)(c:bz p=ab):Ev X 35 [dI k,dS p] (GB a b) (dI (en k p)) (GB a b):=by refine Ev.bQ Tryz.func35 rfl λd=>?_;have c1:bE X [(81,oT aI aS (λk p=>YP (en k p)) λk p=>[cd k=ab,bz p=ab])]:=.cons t81 .nil;refine cf c1 rfl (by simp[hk,c]) ?_;refine AK.one (OA.JY tok 0 rfl rfl rfl rfl rfl rfl) rfl ?_;refine AK.cQ (Dp _ _) [] rfl ?_;refine cf c1 rfl ay ?_;refine AK.one (OA.JY tok 1 rfl rfl rfl rfl rfl rfl) rfl ?_;refine AK.N2 (Dp _ _) [] rfl rfl rfl rfl rfl rfl rfl rfl rfl rfl rfl ?_;exact aW c1 [(20,af)] rfl (by simp) (AK.de [0,1] rfl rfl rfl rfl rfl A8)
end
section
open Go.Proofs Go.Conc Go.Conc.Lib
open Go.ConcN (WgLive PayAt Has RW AtR0)
open Go.ConcR (KK WgAt stA smA rd wr mk Payload DC0)
instance pay:Payload:=⟨241⟩
def l7(g:Int):dt:=λargs σ=>match args,σ with
 |[.e (.one (.c (.int .i64 k))),f,.e (.one (.c (.int .i64 n)))],[]=>match kX 2 f with
  |none=>ae
  |some (b,d)=>aa (Xk (dK k (cP.list b d) n),[],[cP.fits b d,k=g])
 |_,_=>ae
noncomputable def Qo:Code:=(Tryz.f167.body).getD .skip
noncomputable def KQ:Array au:=match Qo with|.seq (.region _ o _) _=>o|_=>#[]
noncomputable def KR:Array au:=match Qo with|.seq _ (.region _ o _)=>o|_=>#[]
def KS:Tryz.f167.body=aa (.seq (.region 0 KQ af) (.region 1 KR ab)):=by kernel_rfl
def oW(d:Option Nat)(op:Op)(ty:aj)(b:Array Edge):au:={dst:=d,op:=op,type:=ty,pos:= "l12_snap.go:82",after:=b,guard:=ae}
def uO:List au:=[oW (aa 6) (.load 230 (.tmp 4)) 230 #[],oW (aa 7) (.load 3 (.tmp 5)) 3 #[],oW (aa 8) (.load 3 (.tmp 1)) 3 #[],oW (aa 9) (.load 23 (.tmp 2)) 23 #[],oW (aa 10) (.load 3 (.tmp 3)) 3 #[],
 oW (aa 11) (.call {callee:=.value (.func 169),args:=#[.tmp 8,.tmp 9,.tmp 10],argTypes:=#[3,23,3]}) 241 #[⟨2,.data⟩,⟨3,.data⟩,⟨4,.data⟩],
 oW (aa 12) (.indexAddr 230 (.tmp 6) (.tmp 7)) 0 #[⟨0,.data⟩,⟨1,.data⟩,⟨0,.phase⟩,⟨1,.phase⟩,⟨2,.phase⟩,⟨3,.phase⟩,⟨4,.phase⟩,⟨5,.phase⟩],
 oW ae (.store 241 (.tmp 12) (.tmp 11)) 0 #[⟨6,.data⟩,⟨5,.data⟩,⟨5,.chain⟩,⟨0,.phase⟩,⟨1,.phase⟩,⟨2,.phase⟩,⟨3,.phase⟩,⟨4,.phase⟩,⟨5,.phase⟩]]
def Ox:KR=uO.toArray:=by kernel_rfl
def oy{i:Nat}{o:au}(h:uO[i]?=aa o):i<8:=(bY.1 h).1
section
variable (k:Int)(ps:List bG)(a:Int)(n x C:Nat)
def Vm(b:ah):Fr:=[(0,.e (.one (.v b))),(1,.e (.one (.c (.rp [.int .i64 k])))),(2,.e (.one (.c (.rp [.sl af 2 ps.length (cP.fn ps)])))),(3,.e (.one (.c (.rp [.int .i64 a])))),(4,.e (.one (.c (.rp [.val (.slice (aa ⟨C,0,ae⟩) n n)])))),(5,.e (.one (.c (.rp [.int .i64 x]))))]
def xW:Nat->D
 |0=>.e (.one (.v (.slice (aa ⟨C,0,ae⟩) n n)))
 |1=>dI x
 |2=>dI k
 |3=>cP.sl ps
 |4=>dI a
 |5=>Xk (dK k ps a)
 |6=>.e (.one (.v (.pointer (aa ⟨C,x*2,ae⟩))))
 |_=>.any
def EA:Nat->Option Nat
 |6=>aa 0|7=>aa 1|8=>aa 2|9=>aa 3|10=>aa 4|11=>aa 5|12=>aa 6|_=>ae
def frW(b:ah):Nat->Fr
 |5=>[(8,dI k),(9,cP.sl ps),(10,dI a)]
 |6=>[(6,.e (.one (.v (.slice (aa ⟨C,0,ae⟩) n n)))),(7,dI x)]
 |_=>Vm k ps a n x C b
end
def Oy{X:Cx ag}{n x C:Nat}(h:x<n):OA X 13 uO (oW (aa 12) (.indexAddr 230 (.tmp 6) (.tmp 7)) 0 #[⟨0,.data⟩,⟨1,.data⟩,⟨0,.phase⟩,⟨1,.phase⟩,⟨2,.phase⟩,⟨3,.phase⟩,⟨4,.phase⟩,⟨5,.phase⟩]) [(6,.e (.one (.v (.slice (aa ⟨C,0,ae⟩) n n)))),(7,dI x)] [] (.e (.one (.v (.pointer (aa ⟨C,x*2,ae⟩))))) []:=by
 refine .kQ (λ_ _ _ _=>dC rfl) (bF.quiet λs l m g=>?_);have b:=g (.tmp 6);have c:=g (.tmp 7);have i:bM [(6,D.e (.one (.v (.slice (aa ⟨C,0,ae⟩) n n)))),(7,dI x)] (.tmp 6)=.e (.one (.v (.slice (aa ⟨C,0,ae⟩) n n))):=rfl;have j:bM [(6,D.e (.one (.v (.slice (aa ⟨C,0,ae⟩) n n)))),(7,dI x)] (.tmp 7)=dI x:=rfl;rw[i]at b;rw[j]at c;have b:=Rd.dZ b;have c:=eT c;generalize d:l (.tmp 7)=vy at c;cases c;have f:=(tok 230 i230 rfl).run_underlying (w:=s.w);refine⟨.pointer (aa ⟨C,x*2,ae⟩),?_,Rd.val rfl,?_⟩
 .simp[aw,oW,b,d,Instr.indexAt,asIntOf,f,i230,(tok 241 i241 rfl).run_sizeOf,i241,dm,h]
 .simp[aw,oW,b,d,Instr.indexAt,asIntOf,f,i230,dm,h]
def Vn{X:Cx ag}{k:Int}(m:ef X 169 (l7 k))(ps:List bG)(a:Int)(n x C:Nat)(w:x<n)(p:ah):
  Kt X 13 uO.toArray (Vm k ps a n x C p) [] (xW k ps a n x C) (frW k ps a n x C p) EA 7:=by
 have r:bE X [(169,l7 k)]:=bE.cons m bE.nil;have f:∀(i:Nat) (o:au) (φ:Fr) (d:D) (obs:List Prop),uO[i]?=aa o->wm tt [(169,l7 k)] [] uO φ [] o=aa (d,ae,obs)->az obs->OA X 13 uO o φ [] d [] :=
  λi o φ d obs _ h b=>gB tok r h b
 refine⟨?_,?_,?_,?_,?_,?_,by decide⟩
 .intro i o b e l _;simp only[ik]at b;have hi:=oy b
  match i,hi with
  |0,_|1,_|2,_|3,_|4,_|5,_|6,_|7,_ =>
   cases b;simp[oW]at l;try (rcases l with rfl|rfl|rfl|rfl|rfl|rfl|rfl|rfl|rfl<;>decide)
   try (rcases l with rfl|rfl|rfl<;>decide)
 .intro i o d b q;simp only[ik]at b;have hi:=oy b
  match i,hi with
  |0,_|1,_|2,_|3,_|4,_|5,_|6,_|7,_ =>
   cases b;cases q;try exact⟨rfl,by decide⟩
 .intro d i h;unfold EA at h;split at h<;>cases h<;>exact⟨_,rfl,rfl⟩
 .intro i o b g;simp only[ik]at b;have hi:=oy b
  match i,hi with
  |0,_=>cases b;exact f 0 _ _ _ _ rfl rfl ay
  |1,_=>cases b;exact f 1 _ _ _ _ rfl rfl ay
  |2,_=>cases b;exact f 2 _ _ _ _ rfl rfl ay
  |3,_=>cases b;exact f 3 _ _ _ _ rfl rfl ay
  |4,_=>cases b;exact f 4 _ _ _ _ rfl rfl ay
  |5,_ =>
   cases b;have:=f 5 _ (frW k ps a n x C p 5) _ _ rfl rfl (by simp[cP.aU]);rw[cP.list_fn]at this;exact this
  |6,_=>cases b;exact Oy w
  |7,_=>grind
 .intro i o b g t σ s v c;simp only[ik]at b;have hi:=oy b
  match i,hi with
  |0,_|1,_|2,_|3,_|4,_ =>
   match t with
   |0|1|2|3|4|5=>exact c
   |t+6=>trivial
  |5,_ =>
   cases b
   match t with
   |8=>exact(show dk σ s v (xW k ps a n x C 2)from by simpa[EA,oW,dj,Region.binds]using c)
   |9=>exact(show dk σ s v (xW k ps a n x C 3)from by simpa[EA,oW,dj,Region.binds]using c)
   |10=>exact(show dk σ s v (xW k ps a n x C 4)from by simpa[EA,oW,dj,Region.binds]using c)
   |0|1|2|3|4|5|6|7=>trivial
   |t+11=>trivial
  |6,_ =>
   cases b
   match t with
   |6=>exact(show dk σ s v (xW k ps a n x C 0)from by simpa[EA,oW,dj,Region.binds]using c)
   |7=>exact(show dk σ s v (xW k ps a n x C 1)from by simpa[EA,oW,dj,Region.binds]using c)
   |0|1|2|3|4|5=>trivial
   |t+8=>trivial
  |7,_=>grind
 .intro o b j u g;simp only[ik]at b;cases b
  match j,u with
  |0,_=>exact⟨⟨0,.phase⟩,by simp[oW],rfl,rfl⟩
  |1,_=>exact⟨⟨1,.phase⟩,by simp[oW],rfl,rfl⟩
  |2,_=>exact⟨⟨2,.phase⟩,by simp[oW],rfl,rfl⟩
  |3,_=>exact⟨⟨3,.phase⟩,by simp[oW],rfl,rfl⟩
  |4,_=>exact⟨⟨4,.phase⟩,by simp[oW],rfl,rfl⟩
  |5,_=>exact⟨⟨5,.phase⟩,by simp[oW],rfl,rfl⟩
  |6,_=>exact⟨⟨6,.data⟩,by simp[oW],rfl,rfl⟩
  |7,_=>grind
noncomputable def uP:aR:={(default:aR)with fn:=Tryz.prog.funcs.size,defers:=[],mode:=.panicking [goexitEntry]}
def xn(vs:Array ah):Deferred:={target:=.fn (.func 167) vs,args:=#[]}
def HM(v0 v1 v2 v3 v4 v5:ah)(w:aA):aH ag af (born ag (xn #[v0,v1,v2,v3,v4,v5])) w =
  .go (G ((baseD 167).at ⟨#[v0,v1,v2,v3,v4,v5,ai,ai,ai,ai,ai,ai,ai],[]⟩ [.code (.seq (.region 0 KQ af) (.region 1 KR ab))]) [uP]) w #[]:=by
 have c:=KS;have d:Tryz.f167.ntmps=13:=by kernel_rfl
 have b:¬Tryz.f167.name= "runtime.NumGoroutine":=by
  have:(Tryz.f167.name== "runtime.NumGoroutine")=af:=by kernel_rfl
  grind
 simp[born,xn,aH,unwind,callDeferred,invoke,callFunc,Tryz.func167,c,d,b,seen,GStep.after,G,Frame.enter,Frame.at,baseD,uP]
end
section
variable {X:Cx ag}
abbrev pk(ps:List bG)(i:Nat):bG:=ps.getD i (0,[])
def KJ{k n:Int}{ps:List bG}{i:Nat}{r:Bs}(hi:i<ps.length)(h:ei k (pk ps i) n=aa r)(a:∀j,j<i->ei k (pk ps j) n=ae):dK k ps n=aa r:=by
 unfold dK;induction ps generalizing i with
 |nil=>grind
 |cons p ps ih =>
  cases i with
  |zero=>grind
  |succ i =>
   have b:=a 0 (by omega);grind
def Ew{k n:Int}{ps:List bG}(a:∀j,j<ps.length->ei k (pk ps j) n=ae):dK k ps n=ae:=by unfold dK;grind[List.getElem_of_mem]
theorem qV.Uo{P:ar}{φ:Fr}{σ:List aP}{T:List (Nat×TI)}(hT:cO P T){fn:Func}{c:Nat}{res:D}{σ':List aP}(ks:List Nat){ps:List Prop}(h:He T fn.results.toList ks φ res=aa ps)(g:az ps)(i:jK ks σ=aa σ')(b:ko σ'=ab)(e:dx ks=ab)(hk:∀j,j<c->ks[j]?=aa j):
  qV P fn c res σ' .ret φ σ:=by
 refine⟨.inl rfl,ks,?_⟩;unfold He at h;split at h
 .rename_i ds Yv;split at h
  .rename_i d f;split at h
   .rename_i a;exact⟨d,ps,zH.Uo hT Yv f,h,g,a,i,b,e,hk⟩
   grind
  grind
 grind
def xe{a:List Nat}:∀j,j<0->a[j]?=aa j:=λ_ h=>absurd h (fL _)
def KL(d:ef X 119 nC)(k:Int)(ps:List bG)(n:Int)(hk:cd k=ab):Ev X 169 [dI k,cP.sl ps,dI n] [] (Xk (dK k ps n)) []:=by
 refine Ev.rZ Tryz.func169 rfl rfl rfl λl=>?_;have f:=l.sl 1 rfl;have b:bE X [(201,Gg aI (Eu dO) aI (λk p n=>Ar (ei k p n)) λk _ _=>[cd k=ab])]:=.cons (Sb d) .nil;refine cf b rfl ay ?_;refine AK.cz 1 (λi=>i<=ps.length/\∀j,j<i->ei k (pk ps j) n=ae) (λi:Nat=>[(0,dI k),(2,dI n),(6,.e (.one (.ptr 0 0))),(11,cP.sl ps),(12,dI ps.length),(13,dI i)]) (λ_=>[.cells 241 [.c (.str []),.c (.bool af)]]) (λi=>ps.length-i) 0 rfl ?_ rfl ?_ rfl ⟨by omega,by omega⟩ ?_
 .simp
 .simp
 rintro i ⟨hi,a⟩;by_cases h:i<ps.length
 .cases g:ei k (pk ps i) n with
  |some r =>
   refine aW b [(14,ab),(24,ab)] rfl ?_ (AK.freeze 6 0 rfl rfl rfl (AK.fE ?_))
   .simp only[az,b9,dO.list_fn];refine⟨?_,dO.aU _,hk,by omega,by omega,db (by omega)⟩;grind
   .refine qV.Uo tok [] rfl ?_ rfl rfl rfl xe;rw[KJ h g a];simp only[b9,dO.list_fn];have e:ei k ((ps.getD i cP.b5).1,(ps.getD i cP.b5).2) n=aa r:=g;rw[e];simp
  |none =>
   refine aW b [(14,ab),(24,af)] rfl ?_ (AK.aQ (i+1) rfl ?_ ?_ ?_ ?_)
   .simp only[az,b9,dO.list_fn];refine⟨by simp only[bA];omega,?_,dO.aU _,hk,by omega,by omega,db (by omega)⟩;grind
   .simp
   .simp
   .grind
   grind
 .refine aW b [(14,af)] rfl (by simp;omega) (AK.leaveD rfl rfl ?_);refine cf b rfl ay ?_;refine AK.freeze 6 0 rfl rfl rfl ?_;refine AK.Q7 tok [] rfl ?_ rfl rfl rfl xe;rw[Ew λj m=>a j (by omega)];simp
def Sc(a:ef X 119 nC){k:Int}(hk:cd k=ab):ef X 169 (l7 k):=by
 intro args σ res σ' obs h d;unfold l7 at h;split at h
 .rename_i k1 da n;split at h
  .cases h
  .rename_i e f b;cases h;obtain⟨c,rfl⟩:=d;exact(KL a _ _ n hk).args λs vs=>cg.imp (λ_ r=>r) (cg.imp (λ_ r=>cP.jT b c r) (cg.imp (λ_ r=>r) (λ_ r=>r))) vs
 grind
def HB:dt:=λargs σ=>match args,σ with
 |[.e (.one (.c (.str [46]))),.e (.one (.c (.int .i64 c)))],[]=>aa (dS (List.replicate c.toNat 46),[],[0<=c/\c<=3])
 |_,_=>ae
def t146:ef X 146 (kr aI (λn=>dI (cG n.toNat)) λn=>[0<=n/\n<=4000000]):=.pz λn h=>by
 have a:0<=n/\n<=4000000:=h;obtain⟨m,rfl⟩:∃m:Nat,n=m:=⟨n.toNat,by omega⟩
 exact Ci (X:=X) m (by omega)
def KM{n:Nat}(b:1<=n)(a:n<=8):n<=cG n/\cG n<=n+3:=by unfold cG;grind
def KN(a:ef X 145 HB)(p:Bs):Ev X 119 [dS p] [] (dS (eO p)) []:=by
 refine Ev.bQ Tryz.func119 rfl λf=>?_;have d:bE X [(129,kr aS (λs=>dB (bz s)) λ_=>[]),(146,kr aI (λn=>dI (cG n.toNat)) λn=>[0<=n/\n<=4000000]),(145,HB)]:=.cons t129 (.cons t146 (.cons a .nil));by_cases b:bz p=ab
 .have c:=b;simp only[bz,bR,ba]at c;have e:=KM c.1.1 c.1.2;refine aW d [(5,af)] rfl ?_ (AK.bw rfl ?_)
  .simp[b,bA];omega
  .simp[eO,b]
 .refine aW d [(5,ab)] rfl ?_ (AK.bw rfl ?_)
  .simp[b]
  .simp[eO,b]
def Vf(a:ef X 145 HB):ef X 119 nC:=.pz λp _=>KN a p
def Ot:Ev X 145 [dS [46],dI 0] [] (dS []) []:=by
 refine Ev.bQ Tryz.func145 rfl λa=>?_;refine aX [(12,ab)] rfl ?_ (AK.bw rfl)
 .simp
def Ou:Ev X 145 [dS [46],dI 1] [] (dS [46]) []:=by
 refine Ev.bQ Tryz.func145 rfl λa=>?_;refine aX [(12,af),(14,ab)] rfl ?_ (AK.bw rfl)
 .simp
def Ve(b:Ev X 145 [dS [46],dI 2] [] (dS [46,46]) [])(d:Ev X 145 [dS [46],dI 3] [] (dS [46,46,46]) []):ef X 145 HB:=by
 intro args σ res σ' obs h a;unfold HB at h;split at h
 .rename_i c;cases h;have:c=0∨c=1∨c=2∨c=3:=by have:0<=c/\c<=3:=a;omega
  rcases this with rfl|rfl|rfl|rfl
  .exact Ot
  .exact Ou
  .exact b
  grind
 grind
def R7(a b:List Bs):Ev X 172 [cS.sl a,cS.sl b] [] (dB (a==b)) []:=by
 refine Ev.bQ Tryz.func172 rfl λk=>?_;have d:=k.sl 0 rfl;by_cases c:a.length=b.length
 .refine aX [(10,af)] rfl (by simp[c]) ?_;refine AK.j3 (λi=>i<=a.length/\∀j,j<i->a.getD j []=b.getD j []) (λi:Nat=>[(0,cS.sl a),(1,cS.sl b),(12,dI a.length),(13,dI i)]) (λ_=>[]) (λi=>a.length-i) 0 rfl ?_ rfl ay ⟨by omega,by omega⟩ ?_
  .simp
  rintro i ⟨hi,f⟩;by_cases h:i<a.length
  .by_cases g:a.getD i []=b.getD i []
   .refine aX [(14,ab),(24,af)] rfl ?_ (AK.gf (i+1) rfl ?_ rfl ay ?_ ?_)
    .simp only[az,b9];have e:(a.getD i cS.b5==b.getD i cS.b5)=ab:=hI.2 g;exact⟨by simp only[bA];omega,by grind,by omega,by omega,by omega,by omega,db (by omega)⟩
    .simp
    .grind
    .omega
   .refine aX [(14,ab),(24,ab)] rfl ?_ (AK.iD (cp.zero rfl ?_))
    .simp only[az,b9];grind
    .have:(a==b)=af:=eD.2 (by grind);simp[this]
  .refine aX [(14,af)] rfl (by simp;omega) (AK.leave rfl rfl ?_);refine bt rfl ay (AK.bw rfl ?_);have:a=b:=rL c λj g l=>by grind
   simp[this]
 .refine aX [(10,ab)] rfl ?_ (AK.bw rfl ?_)
  .simp;omega
  .have:(a==b)=af:=eD.2 (by grind);simp[this]
end
def xf{P:ar}{o:au}{m:ak->D}{σ:List aP}{op:BinOp}{t ty:aj}{x y:ak}(h:o.op=.binOp op t x y ty){e:aj}(E:P.underlying t=aa (.pointer e)){b c:Bool}(z:∀s u v,aF σ s->dk σ s u (m x)->dk σ s v (m y)->∃p q,u=.pointer p/\v=.pointer q/\(p==q)=b/\(eqGuard op t x y u v).run P s.w=.ok () s.w/\(∀es,(eqGuard op t x y u v).events P s.w es=es) /\
   (Op.equal t u v).run P s.w=.ok b s.w/\∀es,(Op.equal t u v).events P s.w es=es)(l:jb op b=aa c):bF P o m σ (.e (.one (.c (.bool c)))) σ:=by
 refine .quiet λs C A r=>?_;obtain⟨p,q,f,g,B,j,n,i,k⟩:=z s _ _ A (r x) (r y);rw[f,g]at j i;have a:=n #[];have d:=k #[];rw[f,g]at a d;cases op<;>simp only[jb,reduceCtorEq,dn]at l
 .subst l;exact⟨.bool b,by simp[aw,h,f,g,j,binOp,i],Rd.bool,by simp[aw,h,f,g,j,a,binOp,i,d]⟩
 .subst l;exact⟨.bool (!b),by simp[aw,h,f,g,j,binOp,i],Rd.bool,by simp[aw,h,f,g,j,a,binOp,i,d]⟩
def tG{P:ar}{o:au}{i:ak->D}{σ:List aP}{op:BinOp}{t ty:aj}{x:ak}(h:o.op=.binOp op t x (.const (.pointer ae)) ty){e:aj}(g:P.underlying t=aa (.pointer e)){c:Bool}(m:i x=.e (.one (.c .hY)))(k:i (.const (.pointer ae))=.e (.one (.c .hY)))(l:jb op ab=aa c):bF P o i σ (.e (.one (.c (.bool c)))) σ:=by
 refine xf h g (b:=ab) ?_ l;intro s u v _ a d;rw[m]at a;rw[k]at d;replace a:=eT a;replace d:=eT d;cases a;cases d;have j:(Op.equal t (.pointer ae) (.pointer ae)).run P s.w=.ok ab s.w:=by show(aY (9999+1) t _ _).run P s.w=_;unfold aY;simp[underlying,g]
 have f:∀es,(Op.equal t (.pointer ae) (.pointer ae)).events P s.w es=es:=λes=>by show(aY (9999+1) t _ _).events P s.w es=es;unfold aY;simp[underlying,g]
 exact⟨ae,ae,rfl,rfl,rfl,by cases op<;>simp[eqGuard],λes=>by cases op<;>simp[eqGuard],j,f⟩
def R3{P:ar}{o:au}{g:ak->D}{σ:List aP}{op:BinOp}{t ty:aj}{x:ak}(h:o.op=.binOp op t x (.const (.pointer ae)) ty){e:aj}(f:P.underlying t=aa (.pointer e)){c:Bool}{l off:Nat}(n:g x=.e (.one (.ptr l off)))(k:g (.const (.pointer ae))=.e (.one (.c .hY)))(m:jb op af=aa c):bF P o g σ (.e (.one (.c (.bool c)))) σ:=by
 refine xf h f (b:=af) ?_ m;intro s u v _ i a;rw[n]at i;rw[k]at a;replace a:=eT a;cases a;obtain⟨_,L,b,_,_,rfl⟩:=(i:gn σ s u (.ptr l off));have j:(Op.equal t (.pointer (aa ⟨b,off,ae⟩)) (.pointer ae)).run P s.w=.ok af s.w:=by show(aY (9999+1) t _ _).run P s.w=_;unfold aY;simp[underlying,f]
 have d:∀es,(Op.equal t (.pointer (aa ⟨b,off,ae⟩)) (.pointer ae)).events P s.w es=es:=λes=>by show(aY (9999+1) t _ _).events P s.w es=es;unfold aY;simp[underlying,f]
 exact⟨_,ae,rfl,rfl,rfl,by cases op<;>simp[eqGuard],λes=>by cases op<;>simp[eqGuard],j,d⟩
def Og{P:ar}{o:au}{j:ak->D}{σ:List aP}{op:BinOp}{t ty:aj}{x y:ak}(h:o.op=.binOp op t x y ty){e:aj}(g:P.underlying t=aa (.pointer e)){n:Nat}(m:n≠0)(r:∀w,(sizeOf e).run P w=.ok n w)(i:∀w es,(sizeOf e).events P w es=es){c:Bool}{l off:Nat}(E:j x=.e (.one (.ptr l off)))(A:j y=.e (.one (.ptr l off)))(C:jb op ab=aa c):bF P o j σ (.e (.one (.c (.bool c)))) σ:=by
 refine xf h g (b:=ab) ?_ C;intro s u v _ p q;rw[E]at p;rw[A]at q;obtain⟨_,L,b,B,k,rfl⟩:=(p:gn σ s u (.ptr l off));obtain⟨_,F,G,d,a,rfl⟩:=(q:gn σ s v (.ptr l off));rw[B]at d;cases d;rw[k]at a;cases a;have z:(Op.equal t (.pointer (aa ⟨b,off,ae⟩)) (.pointer (aa ⟨b,off,ae⟩))).run P s.w=.ok ab s.w:=by show(aY (9999+1) t _ _).run P s.w=_;unfold aY;simp[underlying,g,r,m,sameAddr]
 have f:∀es,(Op.equal t (.pointer (aa ⟨b,off,ae⟩)) (.pointer (aa ⟨b,off,ae⟩))).events P s.w es=es:=λes=>by show(aY (9999+1) t _ _).events P s.w es=es;unfold aY;simp[underlying,g,r,i,m,sameAddr]
 exact⟨_,_,rfl,rfl,by simp,by cases op<;>simp[eqGuard],λes=>by cases op<;>simp[eqGuard],z,f⟩
def Gi{P:ar}{o:au}{i:ak->D}{σ:List aP}{op:BinOp}{t ty:aj}{x:ak}(h:o.op=.binOp op t x (.const (.pointer ae)) ty){e:aj}(g:P.underlying t=aa (.pointer e)){c:Bool}{cs:List C}(m:i x=.e (.one (.c (.rp cs))))(k:i (.const (.pointer ae))=.e (.one (.c .hY)))(l:jb op af=aa c):bF P o i σ (.e (.one (.c (.bool c)))) σ:=by
 refine xf h g (b:=af) ?_ l;intro s u v _ a d;rw[m]at a;rw[k]at d;replace a:=eT a;replace d:=eT d;cases d;cases a with|rp b off =>
 have j:(Op.equal t (.pointer (aa ⟨b,off,ae⟩)) (.pointer ae)).run P s.w=.ok af s.w:=by show(aY (9999+1) t _ _).run P s.w=_;unfold aY;simp[underlying,g]
 have f:∀es,(Op.equal t (.pointer (aa ⟨b,off,ae⟩)) (.pointer ae)).events P s.w es=es:=λes=>by show(aY (9999+1) t _ _).events P s.w es=es;unfold aY;simp[underlying,g]
 exact⟨_,ae,rfl,rfl,rfl,by cases op<;>simp[eqGuard],λes=>by cases op<;>simp[eqGuard],j,f⟩
section
variable {X:Cx ag}
abbrev bB(a:Bool)(v1:ah)(bf:Option (Nat×Nat))(xs:Bs)(b:Nat):aP:=.b8 (BB 249 5 a v1 bf xs b)
def Ce(v1:ah)(b:cD v1=ab)(bf:Option (Nat×Nat))(xs:Bs)(a:Nat):Ev X 213 [.e (.one (.ptr 0 0))] [bB af v1 bf xs a] (.eX []) [bB ab v1 bf xs a]:=by
 refine Ev.bQ Tryz.func213 rfl λc=>?_;refine bt rfl ay ?_;refine AK.law (bF.QZ tok rfl rfl rfl rfl rfl) rfl rfl ?_;refine AK.law (tG rfl Tryz.underlying247 rfl rfl rfl) rfl rfl ?_;refine bt rfl ay ?_;refine AK.law (bF.bTo rfl rfl Tryz.underlying247 Tryz.underlying120 (ey Tryz.type249) (by simp[Tryz.t249]) rfl) rfl rfl ?_;refine AK.law (bF.Ui Tryz.func229 (by kernel_rfl) (by kernel_rfl) (by kernel_rfl) (by kernel_rfl) rfl rfl rfl) rfl rfl ?_;refine AK.law (bF.Uh rfl rfl Tryz.underlying120 Tryz.underlying247 (ey Tryz.type249) (by simp[Tryz.t249]) (by kernel_rfl) rfl) rfl rfl ?_
 refine bt rfl ay ?_;refine AK.law (bF.No tok rfl rfl rfl rfl rfl rfl b) rfl rfl ?_;refine bt rfl ay ?_;exact cp.pv [0] rfl ay rfl rfl rfl (λj d=>by grind)
def Cf(v1:ah)(bf:Option (Nat×Nat))(xs:Bs)(a:Nat):Ev X 213 [.e (.one (.ptr 0 0))] [bB ab v1 bf xs a] (.eX []) [bB ab v1 bf xs a]:=by
 refine Ev.bQ Tryz.func213 rfl λb=>?_;refine bt rfl ay ?_;refine AK.law (bF.Ja tok rfl rfl rfl rfl rfl) rfl rfl ?_;refine AK.law (R3 rfl Tryz.underlying247 rfl rfl rfl) rfl rfl ?_;refine bt rfl ay ?_;refine AK.law (bF.Ja tok rfl rfl rfl rfl rfl) rfl rfl ?_;refine bt rfl ay ?_;refine AK.law (Og rfl Tryz.underlying247 (n:=2) (by decide) (λw=>by simp[sizeOf,typeInfo,ey Tryz.type249,Tryz.t249]) (λw es=>by simp[sizeOf,typeInfo,ey Tryz.type249]) rfl rfl rfl) rfl rfl ?_
 refine bt rfl ay ?_;exact cp.pv [0] rfl ay rfl rfl rfl (λj c=>by grind)
abbrev bb(a:Bool)(bf:Option (Nat×Nat))(xs:Bs)(b:Nat):aP:=bB a (o7 bf xs.length) bf xs b
def Ao:∀j,j<1->([0]:List Nat)[j]?=aa j:=λj a=>by grind
def Ap(a:Bool)(bf:Option (Nat×Nat))(xs:Bs)(b:Nat)(d:xs.length<=9223372036854775807)(c:bf=ae->xs=[]):Ev X 177 [.e (.one (.ptr 0 0))] [bb a bf xs b] (dI xs.length) [bb a bf xs b]:=by
 refine Ev.bQ Tryz.func177 rfl λf=>?_;refine bt rfl ay ?_;refine AK.law (bF.fh tok rfl rfl rfl rfl rfl) rfl rfl ?_;cases bf with
 |none =>
  have:=c rfl;subst this;refine AK.law (bF.uJ rfl rfl Tryz.underlying22 rfl (by simp)) rfl rfl ?_;refine bt rfl ay (AK.de [0] rfl ?_ rfl rfl rfl Ao);simp
 |some p =>
  refine AK.law (bF.uJ rfl rfl Tryz.underlying22 rfl d) rfl rfl ?_;refine bt rfl ay (AK.de [0] rfl ?_ rfl rfl rfl Ao);simp
def Ej(g cap:Nat)(xs s:Bs)(a:Nat)(f:s.length<=9223372036854775807)(b:xs.length+s.length<=cap):Ev X 176 [.e (.one (.ptr 0 0)),dS s] [bb ab (aa (g,cap)) xs a] (.eX [.one (.c (.int .i64 s.length)),.one (.c .iy)]) [bb ab (aa (g,cap)) (xs++s) a]:=by
 refine Ev.bQ Tryz.func176 rfl λd=>?_;refine bt rfl ay ?_;refine AK.cQ (Cf (o7 (aa (g,cap)) xs.length) (aa (g,cap)) xs a) [0] rfl ?_;refine bt rfl ay ?_;refine AK.law (bF.fh tok rfl rfl rfl rfl rfl) rfl rfl ?_;refine bt rfl ay ?_;refine AK.law (bF.Np (l:=0) (g:=g) (cap:=cap) (xs:=xs) rfl Tryz.underlying22 Tryz.underlying9 (ey Tryz.type5) (by simp[Tryz.t5]) rfl rfl rfl rfl b) rfl rfl ?_;refine bt rfl ay ?_;refine AK.law (bF.zz tok rfl rfl rfl rfl rfl rfl rfl) rfl rfl ?_;have e:bb ab (aa (g,cap)) (xs++s) a=.b8 (BB 249 5 ab (o7 (aa (g,cap)) (xs.length+s.length)) (aa (g,cap)) (xs++s) a):=by grind
 rw[e];refine bt rfl ay (AK.de [0] rfl ?_ rfl rfl rfl Ao);simp
theorem R4:Ev X 176 [.e (.one (.ptr 0 0)),dS []] [bb ab ae [] 0] (.eX [.one (.c (.int .i64 0)),.one (.c .iy)]) [bb ab ae [] 0]:=by refine Ev.bQ Tryz.func176 rfl λa=>?_;refine bt rfl ay ?_;refine AK.cQ (Cf (o7 ae 0) ae [] 0) [0] rfl ?_;refine bt rfl ay ?_;refine AK.law (bF.fh tok rfl rfl rfl rfl rfl) rfl rfl ?_;refine bt rfl ay ?_;refine AK.law (bF.Je rfl Tryz.underlying22 Tryz.underlying9 (ey Tryz.type5) rfl rfl) rfl rfl ?_;refine bt rfl ay ?_;refine AK.law (bF.zz tok rfl rfl rfl rfl rfl rfl rfl) rfl rfl ?_;refine bt rfl ay (AK.de [0] rfl ?_ rfl rfl rfl Ao);simp
abbrev dp:D:=.e (.one (.ptr 0 0))
abbrev M9:D:=.e (.one (.ptr 0 1))
def Ek(g cap:Nat)(xs:Bs)(c:Nat)(a:xs.length<=9223372036854775807)(b:cap≠0):Ev X 178 [.e (.one (.ptr 0 0))] [bb ab (aa (g,cap)) xs c] (dS xs) [bb ab (aa (g,cap)) xs xs.length]:=by
 refine Ev.bQ Tryz.func178 rfl λd=>?_;refine aX [(1000001,ab)] rfl ay ?_;refine AK.M8 ja 10 (λi=>bu i 9) (λi=>[dp,dp,M9,.e (.one (.v (.slice (aa ⟨g,0,ae⟩) xs.length cap))),.e (.one (.v (.pointer (aa ⟨g,0,ae⟩)))),dp,dp,M9,.e (.one (.v (.slice (aa ⟨g,0,ae⟩) xs.length cap))),dI xs.length].getD i .any) (λ(_:Unit) _=>dS xs)
  (λ_=>[bb ab (aa (g,cap)) xs xs.length]) rfl rfl rfl rfl rfl rfl ?_ ?_ ?_ ?_
 .refine⟨.cT tok bE.nil rfl,.cT tok bE.nil rfl,.cT tok bE.nil rfl,?_,?_,.cT tok bE.nil rfl,.cT tok bE.nil rfl,.cT tok bE.nil rfl,?_,?_,ay,ay,ay⟩
  .exact .law (bF.fh (l:=0) tok rfl rfl rfl rfl rfl) rfl
  .exact .law (bF.Ue rfl rfl b) rfl
  .exact .law (bF.fh (l:=0) tok rfl rfl rfl rfl rfl) rfl
  .exact .law (bF.uJ rfl rfl Tryz.underlying22 rfl a) rfl
 .intro _;refine⟨.cT tok bE.nil rfl,.cT tok bE.nil rfl,.cT tok bE.nil rfl,?_,?_,.cT tok bE.nil rfl,.cT tok bE.nil rfl,.cT tok bE.nil rfl,?_,?_,ay,.cT tok bE.nil rfl,ay⟩
  .exact .law (bF.fh (l:=0) tok rfl rfl rfl rfl rfl) rfl
  .exact .law (bF.Ue rfl rfl b) rfl
  .exact .law (bF.fh (l:=0) tok rfl rfl rfl rfl rfl) rfl
  .exact .law (bF.uJ rfl rfl Tryz.underlying22 rfl a) rfl
 .exact .Aa (.law (Uc (l:=0) rfl Tryz.underlying278 (by kernel_rfl) rfl rfl rfl) rfl)
 .intro _;refine bt rfl ay (AK.de [0] rfl ?_ rfl rfl rfl Ao);simp
def Vd{o:au}{d:ak->D}{σ:List aP}{t ty:aj}{x y:ak}(h:o.op=.binOp .add t x y ty){b:Int}(f:d x=dI 0)(e:d y=dI b)(a:bA .i64 b):bF ag o d σ (dI b) σ:=by have:=bF.binOp (P:=ag) (σ:=σ) h f e (c:=.int .i64 (0+b)) (obs:=[bA .i64 (0+b)]) rfl (by rw[Int.zero_add];exact a);grind
def eb.Qj{ι:Type}{f:aJ}{fn:Func}{c:Code}{args:List D}{σ:List aP}{σ':ι->List aP}{res:ι->D}(d:Tryz.prog.funcs[f]?=aa fn)(a:(fn.name== "runtime.NumGoroutine")=af)(g:fn.body=aa c)(b:bu args.length fn.ntmps=ab)(h:AK X fn.ntmps (λe φ σ1=>∃j,cp fn σ.length (res j) (σ' j) e φ σ1) [.code c] .normal (iZ 0 args) σ):eb X f args σ res σ' :=
 eb.intro d a g (cV b) (AK.of_code h)
def Oh:Ev X 178 [.e (.one (.ptr 0 0))] [bb ab ae [] 0] (dS []) [bb ab ae [] 0]:=by
 refine Ev.bQ Tryz.func178 rfl λa=>?_;refine aX [(1000001,ab)] rfl ay ?_;refine AK.M8 ja 10 (λi=>bu i 9) (λi=>[dp,dp,M9,.e (.one (.v (.slice ae 0 0))),.e (.one (.v (.pointer ae))),dp,dp,M9,.e (.one (.v (.slice ae 0 0))),dI (0:Nat)].getD i .any) (λ(_:Unit) _=>dS [])
  (λ_=>[bb ab ae [] 0]) rfl rfl rfl rfl rfl rfl ?_ ?_ ?_ ?_
 .refine⟨.cT tok bE.nil rfl,.cT tok bE.nil rfl,.cT tok bE.nil rfl,?_,?_,.cT tok bE.nil rfl,.cT tok bE.nil rfl,.cT tok bE.nil rfl,?_,?_,ay,ay,ay⟩
  .exact .law (bF.fh (l:=0) tok rfl rfl rfl rfl rfl) rfl
  .exact .law (bF.Ud rfl rfl) rfl
  .exact .law (bF.fh (l:=0) tok rfl rfl rfl rfl rfl) rfl
  .exact .law (bF.uJ rfl rfl Tryz.underlying22 rfl (by decide)) rfl
 .intro _;refine⟨.cT tok bE.nil rfl,.cT tok bE.nil rfl,.cT tok bE.nil rfl,?_,?_,.cT tok bE.nil rfl,.cT tok bE.nil rfl,.cT tok bE.nil rfl,?_,?_,ay,.cT tok bE.nil rfl,ay⟩
  .exact .law (bF.fh (l:=0) tok rfl rfl rfl rfl rfl) rfl
  .exact .law (bF.Ud rfl rfl) rfl
  .exact .law (bF.fh (l:=0) tok rfl rfl rfl rfl rfl) rfl
  .exact .law (bF.uJ rfl rfl Tryz.underlying22 rfl (by decide)) rfl
 .exact .Aa (.law (bF.Ug rfl rfl rfl) rfl)
 .intro _;refine bt rfl ay (AK.de [0] rfl ?_ rfl rfl rfl Ao);simp
def Oi(n:Nat)(c:0<n)(d:n<=140737488355328):eb (ι:={p:Nat×Nat // n<=p.2}) X 214 [.e (.one (.ptr 0 0)),dI n] [bb ab ae [] 0] (λ_=>.eX []) (λj=>[bb ab (aa j.1) [] 0]):=by
 refine eb.Qj Tryz.func214 rfl rfl rfl ?_;refine aX [(1000000,ab)] rfl ay ?_;have a:bA .i64 (n:Int):=by simp only[bA];omega
 have v0:D:=.e (.one (.v (.slice ae 0 0)));refine AK.M8 (ι:={p:Nat×Nat // n<=p.2}) ja 8 (λi=>bu i 7||(bu 9 i&&bu i 13)) (λi=>[dp,dp,M9,.e (.one (.v (.slice ae 0 0))),dI (0:Nat),dI 0,dI n,dI n,.any,dp,dp,M9,.e (.one (.v (.slice ae 0 0))),dI (0:Nat)].getD i .any)
  (λj i=>[.e (.one (.v (o7 (aa j.1) n))),.any,.any,.any,.any,.any,.e (.one (.v (.slice (aa ⟨j.1.1,0,ae⟩) 0 j.1.2))),.e (.one (.v (.slice (aa ⟨j.1.1,0,ae⟩) 0 j.1.2)))].getD (i-8) .any)
  (λj=>[bB ab (.slice ae 0 0) (aa j.1) [] 0]) rfl rfl rfl rfl rfl rfl ?_ ?_ ?_ ?_
 .refine⟨.cT tok bE.nil rfl,.cT tok bE.nil rfl,.cT tok bE.nil rfl,?_,?_,?_,.cT tok bE.nil rfl,?_,ay,.cT tok bE.nil rfl,.cT tok bE.nil rfl,.cT tok bE.nil rfl,?_,?_,ay,ay,ay⟩
  .exact .law (bF.fh (l:=0) tok rfl rfl rfl rfl rfl) rfl
  .exact .law (bF.Nq rfl rfl Tryz.underlying22 rfl (by decide)) rfl
  .exact .law (El 0 rfl rfl rfl (by simp[bA]) (λw=>rfl) (λw=>rfl)) rfl
  .exact .law (Vd rfl rfl rfl a) rfl
  .exact .law (bF.fh (l:=0) tok rfl rfl rfl rfl rfl) rfl
  .exact .law (bF.uJ rfl rfl Tryz.underlying22 rfl (by decide)) rfl
 .intro j;have b:j.1.2≠0:=by grind
  refine⟨.cT tok bE.nil rfl,.cT tok bE.nil rfl,.cT tok bE.nil rfl,?_,?_,?_,.cT tok bE.nil rfl,?_,ay,.cT tok bE.nil rfl,.cT tok bE.nil rfl,.cT tok bE.nil rfl,?_,?_,?_,.cT tok bE.nil rfl,ay⟩
  .exact .law (bF.fh (l:=0) tok rfl rfl rfl rfl rfl) rfl
  .exact .law (bF.Nq rfl rfl Tryz.underlying22 rfl (by decide)) rfl
  .exact .law (El 0 rfl rfl rfl (by simp[bA]) (λw=>rfl) (λw=>rfl)) rfl
  .exact .law (Vd rfl rfl rfl a) rfl
  .exact .law (bF.fh (l:=0) tok rfl rfl rfl rfl rfl) rfl
  .exact .law (bF.uJ rfl rfl Tryz.underlying22 rfl (by decide)) rfl
  .exact .law (bF.Uf (k:=0) rfl Tryz.underlying22 (ey Tryz.type5) rfl rfl (lk _) j.2 b (dm _ _ _)) rfl
 .exact .kQ rfl (Ub (l:=0) (ps:=#[3]) Tryz.underlying22 Tryz.func230 (by kernel_rfl) (by kernel_rfl) (by kernel_rfl) (by kernel_rfl) rfl rfl rfl c d rfl)
 .intro j;refine bt rfl ay ?_;refine AK.law (bF.fh (l:=0) tok rfl rfl rfl rfl rfl) rfl rfl ?_;refine AK.law (bF.copyV rfl Tryz.underlying22 (ey Tryz.type5) rfl rfl) rfl rfl ?_;refine bt rfl ay ?_;refine AK.law (bF.zz (l:=0) tok rfl rfl rfl rfl rfl rfl rfl) rfl rfl ?_;refine bt rfl ay ?_;exact⟨j,cp.pv [0] rfl ay rfl rfl rfl Ao⟩
def Ge(n:Nat)(a:0<n)(b:n<=140737488355328):eb (ι:={p:Nat×Nat // n<=p.2}) X 175 [.e (.one (.ptr 0 0)),dI n] [bb af ae [] 0] (λ_=>.eX []) (λj=>[bb ab (aa j.1) [] 0]):=by
 refine eb.Qj Tryz.func175 rfl rfl rfl ?_;refine bt rfl ay ?_;refine AK.cQ (Ce (o7 ae 0) rfl ae [] 0) [0] rfl ?_;refine aX [(7,af),(1000003,ab)] rfl ?_ ?_
 .simp
 refine AK.M8 ja 4 (λi=>bu i 3||(bu 5 i&&bu i 9)||aB i 11) (λi=>[dp,dp,M9,.e (.one (.v (.slice ae 0 0))),.any,dp,dp,M9,.e (.one (.v (.slice ae 0 0))),dI (0:Nat),.any,dI n].getD i .any)
  (λ(_:Unit) i=>[dI (0:Nat),.any,.any,.any,.any,.any,dI (0-0),.any,dB ab].getD (i-4) .any)
  (λ_=>[bb ab ae [] 0]) rfl rfl rfl rfl rfl rfl ?_ ?_ ?_ ?_
 .refine⟨.cT tok bE.nil rfl,.cT tok bE.nil rfl,.cT tok bE.nil rfl,?_,ay,.cT tok bE.nil rfl,.cT tok bE.nil rfl,.cT tok bE.nil rfl,?_,?_,ay,.cT tok bE.nil rfl,ay,ay⟩
  .exact .law (bF.fh (l:=0) tok rfl rfl rfl rfl rfl) rfl
  .exact .law (bF.fh (l:=0) tok rfl rfl rfl rfl rfl) rfl
  .exact .law (bF.uJ rfl rfl Tryz.underlying22 rfl (by decide)) rfl
 .intro _;refine⟨.cT tok bE.nil rfl,.cT tok bE.nil rfl,.cT tok bE.nil rfl,?_,ay,.cT tok bE.nil rfl,.cT tok bE.nil rfl,.cT tok bE.nil rfl,?_,?_,?_,.cT tok bE.nil rfl,?_,ay⟩
  .exact .law (bF.fh (l:=0) tok rfl rfl rfl rfl rfl) rfl
  .exact .law (bF.fh (l:=0) tok rfl rfl rfl rfl rfl) rfl
  .exact .law (bF.uJ rfl rfl Tryz.underlying22 rfl (by decide)) rfl
  .exact .eval (ds:=[]) tok bE.nil (obs:=[bA .i64 (((0:Nat):Int)-((0:Nat):Int))]) rfl (by simp[bA])
  .exact .eval (ds:=[(21,ab)]) tok bE.nil (obs:=[decide ((0:Int)-0<(n:Int))=ab]) rfl (by simp;omega)
 .exact .Aa (.law (bF.Nq rfl rfl Tryz.underlying22 rfl (by decide)) rfl)
 .intro _;refine bt rfl ay ?_;refine AK.cP (Oi n a b) [0] rfl (λ_=>rfl) λj=>?_;refine bt rfl ay ?_;exact⟨j,cp.pv [0] rfl ay rfl rfl rfl Ao⟩
def Kw:Ev X 175 [.e (.one (.ptr 0 0)),dI (0:Nat)] [bb af ae [] 0] (.eX []) [bb ab ae [] 0]:=by
 refine Ev.bQ Tryz.func175 rfl λa=>?_;refine bt rfl ay ?_;refine AK.cQ (Ce (o7 ae 0) rfl ae [] 0) [0] rfl ?_;refine aX [(7,af),(1000003,ab)] rfl ?_ ?_
 .simp
 refine AK.M8 ja 4 (λi=>bu i 3||(bu 5 i&&bu i 9)||aB i 11) (λi=>[dp,dp,M9,.e (.one (.v (.slice ae 0 0))),.any,dp,dp,M9,.e (.one (.v (.slice ae 0 0))),dI (0:Nat),.any,dI (0:Nat)].getD i .any)
  (λ(_:Unit) i=>[dI (0:Nat),.any,.any,.any,.any,.any,dI (0-0),.any,dB af].getD (i-4) .any)
  (λ_=>[bb ab ae [] 0]) rfl rfl rfl rfl rfl rfl ?_ ?_ ?_ ?_
 .refine⟨.cT tok bE.nil rfl,.cT tok bE.nil rfl,.cT tok bE.nil rfl,?_,ay,.cT tok bE.nil rfl,.cT tok bE.nil rfl,.cT tok bE.nil rfl,?_,?_,ay,.cT tok bE.nil rfl,ay,ay⟩
  .exact .law (bF.fh (l:=0) tok rfl rfl rfl rfl rfl) rfl
  .exact .law (bF.fh (l:=0) tok rfl rfl rfl rfl rfl) rfl
  .exact .law (bF.uJ rfl rfl Tryz.underlying22 rfl (by decide)) rfl
 .intro _;refine⟨.cT tok bE.nil rfl,.cT tok bE.nil rfl,.cT tok bE.nil rfl,?_,ay,.cT tok bE.nil rfl,.cT tok bE.nil rfl,.cT tok bE.nil rfl,?_,?_,?_,.cT tok bE.nil rfl,?_,ay⟩
  .exact .law (bF.fh (l:=0) tok rfl rfl rfl rfl rfl) rfl
  .exact .law (bF.fh (l:=0) tok rfl rfl rfl rfl rfl) rfl
  .exact .law (bF.uJ rfl rfl Tryz.underlying22 rfl (by decide)) rfl
  .exact .eval (ds:=[]) tok bE.nil (obs:=[bA .i64 (((0:Nat):Int)-((0:Nat):Int))]) rfl (by simp[bA])
  .exact .eval (ds:=[(21,af)]) tok bE.nil (obs:=[decide ((0:Int)-0<((0:Nat):Int))=af]) rfl (by simp)
 .exact .Aa (.law (bF.Nq rfl rfl Tryz.underlying22 rfl (by decide)) rfl)
 .intro _;refine bt rfl ay ?_;exact cp.pv [0] rfl ay rfl rfl rfl Ao
def Kx{o:au}{a:ak->D}{σ:List aP}(h:o.op=.alloc 249):bF ag o a σ (.e (.one (.ptr σ.length 0))) (σ++[bb af ae [] 0]) :=
 bF.Q0 h (λw=>by simp[zeroValue,typeInfo,ey Tryz.type249,Tryz.t249]) (λw es=>by simp)
def Ky{o:au}{n:ak->D}{σ:List aP}{x y z:ak}{q:Array aj}{a b c:Int}(m:Int)(h:o.op=.call {callee:=.builtin .min,args:=#[x,y,z],argTypes:=q})(v:n x=dI a)(r:n y=dI b)(t:n z=dI c)(w:min (min a b) c=m)(u:bA .i64 m):bF ag o n σ (dI m) σ:=by
 refine .quiet λs p A d=>?_;have i:=d x;have j:=d y;have f:=d z;rw[v]at i;rw[r]at j;rw[t]at f;replace i:=eT i;replace j:=eT j;replace f:=eT f;generalize g:p x=vx at i;generalize k:p y=vy at j;generalize l:p z=vz at f;cases i;cases j;cases f;have e:(if c<(if b<a then b else a)then c else if b<a then b else a)=m:=by grind
 exact⟨.int .i64 m,by simp[aw,h,resolve,invoke,builtin,g,k,l,Builtin.min_,Builtin.min2,e],.int u,by simp[aw,h,resolve,invoke,builtin,g,k,l,Builtin.min_,Builtin.min2]⟩
def Kz(n:Nat)(o:2<=n)(l:n<=3):Ev X 145 [dS [46],dI n] [] (dS (List.replicate n 46)) []:=by
 refine Ev.bQ Tryz.func145 rfl λp=>?_;have a:bE X [(174,R5)]:=.cons t174 .nil;refine bq a [(13,af),(15,af),(18,af),(30,af),(33,af),(40,af),(44,af),(45,af),(46,af),(47,af),(48,af),(96,af),(1000035,ab)] rfl ?_ ?_
 .have h:(n:Int)=2∨(n:Int)=3:=by omega
  have e:(iS [46] 0).toNat=46:=rfl;simp[bA,e,h];omega
 refine AK.region ?_;refine AK.law (Kx rfl) rfl rfl ?_;refine cx a rfl ay ?_;refine AK.cP (Ge n (by omega) (by omega)) [0] rfl (λ_=>rfl) λj=>?_;obtain⟨⟨g,cap⟩,b⟩:=j;have b:n<=cap:=b;refine cx a rfl ay ?_;refine AK.cQ (Ej g cap [] [46] 0 (by simp) (by simp;omega)) [0] rfl ?_;refine cx a rfl ay ?_;refine AK.j3 (λk=>1<=k/\k<=n) (λk:Nat=>[(0,dS [46]),(7,dI n),(8,dI n),(9,.e (.one (.ptr 0 0)))]) (λk=>[bb ab (aa (g,cap)) (List.replicate k 46) (k-1)]) (λk=>n-k) 1 rfl ?_ rfl ?_ ⟨by omega,by omega⟩ ?_
 .simp
 .exact az.cat.2 ⟨rfl,ay⟩
 rintro k ⟨d,i⟩;refine cx a rfl ay ?_;refine AK.cQ (Ap ab (aa (g,cap)) (List.replicate k 46) (k-1) (by simp;omega) (by simp)) [0] rfl ?_;by_cases hk:k<n
 .refine bq a [(113,ab)] rfl ?_ ?_
  .simp;omega
  refine AK.cQ (Ap ab (aa (g,cap)) (List.replicate k 46) (k-1) (by simp;omega) (by simp)) [0] rfl ?_;refine cx a rfl ?_ ?_
  .simp[bA];omega
  refine AK.cQ (Ap ab (aa (g,cap)) (List.replicate k 46) (k-1) (by simp;omega) (by simp)) [0] rfl ?_;refine cx a rfl ay ?_;refine AK.law (Ky 1 rfl rfl rfl rfl (by simp;omega) (by simp[bA])) rfl rfl ?_;refine cx a rfl ay ?_;refine AK.cQ (Ek g cap (List.replicate k 46) (k-1) (by simp;omega) (by omega)) [0] rfl ?_;have c:sd (List.replicate k (46:UInt8)) ae (aa 1)=[46]:=by
   obtain⟨m,rfl⟩:∃m,k=m+1:=⟨k-1,by omega⟩
   simp[sd,List.replicate_succ]
  refine cx a rfl ?_ ?_
  .simp;omega
  rw[c];refine AK.cQ (Ej g cap (List.replicate k 46) [46] (List.replicate k 46).length (by simp) (by simp;omega)) [0] rfl ?_;have f:List.replicate k (46:UInt8)++[46]=List.replicate (k+1) 46:=by rw[List.replicate_succ']
  rw[f];refine cx a rfl ay (AK.gf (k+1) rfl ?_ rfl ?_ ⟨by omega,by omega⟩ (by omega))
  .simp
  .refine az.cat.2 ⟨?_,ay⟩;simp
 .refine bq a [(113,af)] rfl ?_ (AK.leave rfl rfl ?_)
  .simp;omega
  have e:k=n:=by omega
  subst e;refine cx a rfl ay ?_;refine AK.cQ (Ek g cap (List.replicate k 46) (k-1) (by simp;omega) (by omega)) [0] rfl ?_;exact cx a rfl ay (AK.bw rfl)
def YN:ef X 145 HB:=Ve (Kz 2 (by omega) (by omega)) (Kz 3 (by omega) (by omega))
def Oj:ef X 119 nC:=Vf YN
def Room(bf:Option (Nat×Nat))(n:Nat):Prop:=match bf with|none=>n=0|some (_,cap)=>n<=cap/\0<cap
def _root_.Go.AM.eb.re{P:ar}{ι b:Type}{X:Cx P}{f:aJ}{args:List D}{σ:List aP}{res:ι->D}{σ':ι->List aP}{a:b->D}{σ2:b->List aP}(h:eb X f args σ res σ')(g:ι->b)(c:∀i,a (g i)=res i)(d:∀i,σ2 (g i)=σ' i):eb X f args σ a σ2 :=
 ⟨h.1,λs vs h1 h2 S cs hS=>h.2 s vs h1 h2 S cs λi fr v s' k1 k2 k3 k4=>hS (g i) fr v s' k1 (by grind) (by grind) (by grind)⟩
def KA(n:Nat)(a:n<=140737488355328):eb (ι:={bf:Option (Nat×Nat) // Room bf n}) X 175 [.e (.one (.ptr 0 0)),dI n] [bb af ae [] 0] (λ_=>.eX []) (λj=>[bb ab j.1 [] 0]):=by
 by_cases h:n=0
 .subst h;exact Kw.te.re (λ_=>⟨ae,rfl⟩) (λ_=>rfl) (λ_=>rfl)
 .exact(Ge n (by omega) a).re (λp=>⟨aa p.1,p.2,by grind⟩) (λ_=>rfl) (λ_=>rfl)
def Em(bf:Option (Nat×Nat))(xs s:Bs)(a:s.length<=9223372036854775807)(h:Room bf (xs.length+s.length)):Ev X 176 [.e (.one (.ptr 0 0)),dS s] [bb ab bf xs 0] (.eX [.one (.c (.int .i64 s.length)),.one (.c .iy)]) [bb ab bf (xs++s) 0]:=by
 cases bf with
 |none =>
  have h:xs.length+s.length=0:=h;grind[R4]
 |some p=>exact Ej p.1 p.2 xs s 0 a h.1
def shown(bf:Option (Nat×Nat))(xs:Bs):Nat:=match bf with|none=>0|some _=>xs.length
def Ol(bf:Option (Nat×Nat))(xs:Bs)(a:xs.length<=9223372036854775807)(h:Room bf xs.length):Ev X 178 [.e (.one (.ptr 0 0))] [bb ab bf xs 0] (dS xs) [bb ab bf xs (shown bf xs)]:=by
 cases bf with
 |none =>
  have h:xs.length=0:=h;have b:xs=[]:=jg h;subst b;exact Oh
 |some p=>exact Ek p.1 p.2 xs 0 a (by have:=h.2;omega)
def Gf(l:List Bs)(i:Nat):Bs:=(l.take i).flatten
def KB{l:List Bs}{i:Nat}(h:i<l.length):Gf l (i+1)=Gf l i++l.getD i []:=by unfold Gf;grind[List.take_add_one]
def Vg{l:List Bs}:Gf l l.length=l.flatten:=by simp[Gf]
def KC{l:List Bs}(i:Nat):(Gf l i).length<=l.flatten.length:=by
 have e:l.flatten=(l.take i).flatten++(l.drop i).flatten:=by grind[List.take_append_drop]
 rw[e,cX];simp only[Gf];omega
def Om(l:List Bs)(o:l.flatten.length<=140737488355328):Ev X 171 [cS.sl l,dS []] [] (dS l.flatten) []:=by
 refine Ev.bQ Tryz.func171 rfl λs=>?_;have k:=s.sl 0 rfl;by_cases g:l=[]
 .subst g;refine aX [(14,ab)] rfl ?_ (AK.bw rfl)
  .simp
 by_cases r:l.length=1
 .obtain⟨x,rfl⟩:=List.length_eq_one_iff.1 r;refine aX [(14,af),(16,ab)] rfl ?_ (AK.bw rfl ?_)
  .simp
  .simp[cS,mh.fn]
 have u:2<=l.length:=by
  have:l.length≠0:=by grind
  omega
 refine aX [(14,af),(16,af),(22,af)] rfl ?_ ?_
 .simp[g];omega
 refine AK.j3 (λi=>i<=l.length) (λi:Nat=>[(0,cS.sl l),(1,dS []),(5,dI (Gf l i).length),(39,cS.sl l),(40,dI l.length),(41,dI i)]) (λ_=>[]) (λi=>l.length-i) 0 rfl ?_ rfl ay (by omega) ?_
 .simp[Gf]
 .intro i hi;have v:=KC (l:=l) i;by_cases h:i<l.length
  .have f:=KC (l:=l) (i+1);rw[KB h,cX]at f;refine aX [(42,ab),(49,af)] rfl ?_ (AK.gf (i+1) rfl ?_ rfl ay (by omega) (by omega))
   .have e:(l.getD (i:Int).toNat cS.b5)=l.getD i []:=rfl;simp only[az,bA,e];grind
   .have e:(l.getD (i:Int).toNat cS.b5)=l.getD i []:=rfl;rw[KB h];rw[e];simp
  .have e:i=l.length:=by omega
   subst e;refine aX [(42,af),(1000018,ab)] rfl ?_ (AK.leave rfl rfl ?_)
   .simp
   refine aX [(1000018,ab)] rfl ay ?_;refine AK.region ?_;refine AK.law (Kx rfl) rfl rfl ?_;refine c8 rfl ay ?_;rw[Vg];refine AK.cP (KA l.flatten.length o) [0] rfl (λ_=>rfl) λj=>?_;obtain⟨bf,d⟩:=j;refine c8 rfl ?_ ?_
   .exact⟨by omega,show(0:Int)<(l.length:Int) by omega⟩
   have room:∀n,n<=l.flatten.length->Room bf n:=λn q=>by
    cases bf with
    |none =>
     have:l.flatten.length=0:=d;grind
    |some p=>exact⟨iq q d.1,d.2⟩
   have m:Gf l 1=l.getD 0 []:=by rw[KB (by omega)];simp[Gf]
   have b:=KC (l:=l) 1;rw[m]at b;refine AK.cQ (Em bf [] (l.getD 0 []) (by omega) (room _ (by grind))) [0] rfl ?_;refine c8 rfl ?_ ?_
   .exact⟨by omega,show(1:Int)<=(l.length:Int) by omega⟩
   refine AK.j3 (λi=>i+1<=l.length) (λi:Nat=>[(1,dS []),(8,.e (.one (.ptr 0 0))),(63,.e (.one (.c (.sl af 1 (l.length-1) (lZ 1 (cS.fn l)))))),(64,dI (l.length-1:Nat)),(65,dI i)]) (λi=>[bb ab bf (Gf l (i+1)) 0]) (λi=>l.length-i) 0 rfl ?_ rfl ?_ (by omega) ?_
   .simp[dc]
   .refine az.cat.2 ⟨?_,ay⟩;rw[bC,m];exact rfl
   intro i hi;have t:=KC (l:=l) (i+1);by_cases h:i+1<l.length
   .have a:=KC (l:=l) (i+2);rw[KB h,cX]at a;refine aX [(66,ab)] rfl ?_ ?_
    .exact⟨by omega,by omega,db (by omega)⟩
    refine AK.cQ (Em bf (Gf l (i+1)) [] (by simp) (room _ (by grind))) [0] rfl ?_;rw[iQ];refine bt rfl ay ?_;refine AK.cQ (Em bf (Gf l (i+1)) (l.getD (1+i) []) (by grind) (room _ (by grind))) [0] rfl ?_;refine bt rfl ?_ (AK.gf (i+1) rfl ?_ rfl ?_ (by omega) (by omega))
    .simp only[az,bA];omega
    .simp
    .refine az.cat.2 ⟨?_,ay⟩;rw[KB h,Nat.add_comm 1 i];exact rfl
   .have e:i+1=l.length:=by omega
    refine aX [(66,af)] rfl ?_ (AK.leave rfl rfl ?_)
    .exact iP (by omega)
    rw[e,Vg];refine bt rfl ay ?_;refine AK.cQ (Ol bf l.flatten (by omega) (room _ (by omega))) [0] rfl ?_;exact bt rfl ay (AK.bw rfl)
def HF{s:Bs}(h:b6 s=ab)(i:Nat)(hi:i<s.length):97<=cK s i/\cK s i<=122:=by have a:=List.all_eq_true.1 h (s.getD i 0) (by grind);simp only[eP,bR,ba]at a;unfold cK;omega
def Cm(s:Bs)(i:Nat)(a:b6 s=ab)(f:3<=i)(hi:i<=s.length)(e:s.length<=4000000):Ev X 148 [dS s,dI i] [] (dB (jw s i)) []:=by
 refine Ev.bQ Tryz.func148 rfl λj=>?_;have k:=HF a (i-1) (by omega);have g:=HF a (i-2) (by omega);have h:=HF a (i-3) (by omega);have b:((iS s ((i:Int)-1)).toNat:Int)=cK s (i-1):=by grind[cN]
 have c:((iS s ((i:Int)-2)).toNat:Int)=cK s (i-2):=by grind[cN]
 have d:((iS s ((i:Int)-3)).toNat:Int)=cK s (i-3):=by grind[cN]
 refine bt rfl ?_ (AK.bw rfl ?_)
 .simp only[az,bA,b,c,d];omega
 .simp only[az,az.cat,b,c,d,jw,dl,aE];grind
def HG:ef X 148 (oT aS aI (λs i=>dB (jw s i.toNat)) λs i=>[b6 s=ab,3<=i,i<=s.length,s.length<=4000000]):=.sD λs i h=>by
 obtain⟨b,d,c,a⟩:=h;obtain⟨m,rfl⟩:∃m:Nat,i=m:=⟨i.toNat,by omega⟩
 exact Cm s m b (by omega) (by omega) a
def xi{o:au}{k:ak->D}{σ:List aP}{x y:ak}{j:Array aj}{a b:Int}(m:Int)(h:o.op=.call {callee:=.builtin .min,args:=#[x,y],argTypes:=j})(q:k x=dI a)(n:k y=dI b)(r:min a b=m)(p:bA .i64 m):bF ag o k σ (dI m) σ:=by
 refine .quiet λs l t c=>?_;have f:=c x;have g:=c y;rw[q]at f;rw[n]at g;replace f:=eT f;replace g:=eT g;generalize d:l x=vx at f;generalize i:l y=vy at g;cases f;cases g;have e:(if b<a then b else a)=m:=by grind
 exact⟨.int .i64 m,by simp[aw,h,resolve,invoke,builtin,d,i,Builtin.min_,Builtin.min2,e],.int p,by simp[aw,h,resolve,invoke,builtin,d,i,Builtin.min_,Builtin.min2]⟩
theorem KO{t:Bs}{f j:Nat}(h:t.length<=f+3+j)(b:j<=5):tH t f (5-j)=min (f+8) t.length:=by
 rcases cC j 5 with a|a
 .obtain⟨k,hk⟩:∃k,5-j=k+1:=⟨4-j,by omega⟩
  rw[hk];simp only[tH];grind
 .rw[show 5-j=0 by omega];rfl
def HH(t:Bs)(f:Nat)(m:b6 t=ab)(n:f<=t.length)(o:t.length<=4000000):Ev X 128 [dS t,dI f] [] (dI (cutAt t f)) []:=by
 refine Ev.bQ Tryz.func128 rfl λp=>?_;have a:bE X [(148,oT aS aI (λs i=>dB (jw s i.toNat)) λs i=>[b6 s=ab,3<=i,i<=s.length,s.length<=4000000])]:=.cons HG .nil;refine cf a rfl ?_ ?_
 .simp[bA];omega
 refine AK.j3 (λj=>j<=5/\tH t f (5-j)=cutAt t f) (λj:Nat=>[(0,dS t),(1,dI f),(5,dI (f+3+j))]) (λ_=>[]) (λj=>5-j) 0 rfl ?_ rfl ay ⟨by omega,rfl⟩ ?_
 .simp
 rintro j ⟨q,b⟩;by_cases h:j<5/\f+3+j<t.length
 .obtain⟨k,hk⟩:∃k,5-j=k+1:=⟨4-j,by omega⟩
  have d:f+(7-k)=f+3+j:=by omega
  rw[hk]at b;simp only[tH,d]at b;rw[aZ (by omega)]at b;have e:((f:Int)+3+j).toNat=f+3+j:=by omega
  cases c:jw t (f+3+j)with
  |true =>
   rw[c,bl rfl]at b;refine aW a [(11,ab),(16,ab),(22,ab)] rfl ?_ (AK.iD (cp.zero rfl ?_))
   .simp only[az,bA,e,c,m,ba,eq_self,aG,aE];omega
   .simp[<-b]
  |false =>
   rw[c,aZ (by simp)]at b;refine aW a [(11,ab),(16,ab),(22,af)] rfl ?_ (AK.gf (j+1) rfl ?_ rfl ay ⟨by omega,by grind⟩ (by omega))
   .simp only[az,bA,e,c,m,ba,eq_self,aG,aE];omega
   .simp;omega
 .have e:cutAt t f=min (f+8) t.length:=by
   rw[<-b];rcases cC j 5 with g|g
   .grind [KO]
   .rw[show 5-j=0 by omega];rfl
  have l:bA .i64 ((min (f+8) t.length:Nat):Int):=by simp only[bA];omega
  rcases cC j 5 with g|g
  .refine aW a [(11,ab),(16,af)] rfl ?_ (AK.leave rfl rfl ?_)
   .simp only[az,bA,ba,bO];omega
   refine cf a rfl ?_ ?_
   .simp only[az,bA];omega
   refine AK.law (xi ((min (f+8) t.length:Nat):Int) rfl rfl rfl (by omega) l) rfl rfl ?_;refine cf a rfl ay (AK.bw rfl ?_);simp[e]
  .refine aW a [(11,af)] rfl ?_ (AK.leave rfl rfl ?_)
   .simp only[az,bA,ba,bO];omega
   refine cf a rfl ?_ ?_
   .simp only[az,bA];omega
   refine AK.law (xi ((min (f+8) t.length:Nat):Int) rfl rfl rfl (by omega) l) rfl rfl ?_;refine cf a rfl ay (AK.bw rfl ?_);simp[e]
def Se:ef X 128 (oT aS aI (λs i=>dI (cutAt s i.toNat)) λs i=>[b6 s=ab,0<=i,i<=s.length,s.length<=4000000]):=.sD λs i h=>by
 obtain⟨b,d,c,a⟩:=h;obtain⟨m,rfl⟩:∃m:Nat,i=m:=⟨i.toNat,by omega⟩
 exact HH s m b (by omega) a
abbrev Ql(t:Bs):C:=.fn (.func 127) [] [.rp [.str t]]
theorem Ov(t:Bs):Ev X 80 [dS t] [] (.e (.one (.c (Ql t)))) []:=by refine Ev.bQ Tryz.func80 rfl λa=>?_;refine qE [] 5 rfl ay ?_;refine AK.freeze 1 0 rfl rfl rfl ?_;exact bt rfl ay (AK.bw rfl)
def HI{T:Type}(text:Bs)(o:b6 text=ab)(p:text.length<=4000000){N0:Nat}{φ0:Fr}{d:Loop}(b B1 B2:T->aP)(R:Nat->T->Prop)(g:T)(m:R 0 g)(hB:∀t,b t≠.qT/\B1 t≠.qT/\B2 t≠.qT)(xj:∀f t,f<text.length->R f t->Yields (ι:={a:T // R (cutAt text f) a}) X 3 [dI f,dI (cutAt text f)] [b t,B1 t,B2 t,.loop N0 φ0 d] ab (λa=>[b a.1,B1 a.1,B2 a.1,.loop N0 φ0 d])):
  eb (ι:={t:T // R text.length t}) X 127 [.e (.one (.ref 3)),.e (.one (.c (.rp [.str text])))] [b g,B1 g,B2 g,.loop N0 φ0 d] (λ_=>.eX []) (λi=>[b i.1,B1 i.1,B2 i.1,.loop N0 φ0 d]):=by
 refine eb.J2 Tryz.func127 rfl rfl rfl (AK.of_code ?_);have j:bE X [(128,oT aS aI (λs i=>dI (cutAt s i.toNat)) λs i=>[b6 s=ab,0<=i,i<=s.length,s.length<=4000000])]:=.cons Se .nil;refine cf j rfl ay ?_;show AW X _ (.loop _) _ _ _;refine AW.loop (S:=T×Nat) (λx=>x.2<=text.length/\R x.2 x.1) (λx=>[(0,.e (.one (.ref 3))),(1,.e (.one (.c (.rp [.str text])))),(3,dI x.2)]) (λx=>[b x.1,B1 x.1,B2 x.1,.loop N0 φ0 d]) (λx=>text.length-x.2) (g,0) ⟨lk _,m⟩ (cE rfl (by simp)) rfl ?_;rintro⟨t,f⟩ ⟨n,k⟩;simp only at n k;refine AK.of_code ?_;by_cases h:f<text.length
 .have l:=nD text f h;refine aW j [(8,ab)] rfl ?_ ?_
  .simp only[az,o,ba,eq_self,aG,aE];omega
  refine AK.yield (xj f t h k) rfl rfl rfl rfl rfl rfl λa=>?_;refine aW j [(16,af)] rfl ?_ ?_
  .simp
  refine⟨(a.1,cutAt text f),⟨l.2.1,a.2⟩,?_,cE rfl (by simp),rfl⟩;grind
 .have e:f=text.length:=by omega
  subst e;refine aW j [(8,af)] rfl ?_ ?_
  .simp
  refine AK.J7 rfl rfl ?_;exact⟨⟨t,k⟩,.inr rfl,rfl,rl (hB t).1 (rl (hB t).2.1 (rl (hB t).2.2 rfl)),[],.eX [],[],rfl,rfl,rfl,ay⟩
def Tk{P:ar}{o:au}{i:ak->D}{σ:List aP}{op:BinOp}{t ty:aj}{x:ak}(h:o.op=.binOp op t x (.const (.pointer ae)) ty){e:aj}(g:P.underlying t=aa (.pointer e)){c:Bool}{l:Nat}{E:aj}{lt rt:Tr}{a b:Int}(z:i x=.e (.one (.ref l)))(m:du l σ=aa (.b8 (nc E (.nd lt a b rt))))(p:i (.const (.pointer ae))=.e (.one (.c .hY)))(y:jb op af=aa c):bF P o i σ (.e (.one (.c (.bool c)))) σ:=by
 refine xf h g (b:=af) ?_ y;intro s u v q j d;rw[z]at j;rw[p]at d;replace d:=eT d;cases d;obtain⟨_,L,r,rfl,_⟩:=(j:gn σ s u (.ref l));obtain⟨_,⟨b,_,_,_,_,n,_⟩,_⟩:=q.box l _ L (bZ m) r;rw[n];have k:(Op.equal t (.pointer (aa ⟨b,0,ae⟩)) (.pointer ae)).run P s.w=.ok af s.w:=by show(aY (9999+1) t _ _).run P s.w=_;unfold aY;simp[underlying,g]
 have f:∀es,(Op.equal t (.pointer (aa ⟨b,0,ae⟩)) (.pointer ae)).events P s.w es=es:=λes=>by show(aY (9999+1) t _ _).events P s.w es=es;unfold aY;simp[underlying,g]
 exact⟨_,ae,rfl,rfl,rfl,by cases op<;>simp[eqGuard],λes=>by cases op<;>simp[eqGuard],k,f⟩
abbrev Pn(a b:Int):D:=.e (.agg [.c (.int .i64 a),.c (.int .i64 b)])
abbrev I1:aj:=142
def A5(a b:Int)(t:Tr):∃l x y r,t.put a b=.nd l x y r:=by
 cases t with
 |nil=>exact⟨_,_,_,_,rfl⟩
 |nd l x y r =>
  simp only[Tr.put];split
  .grind
  split<;>exact⟨_,_,_,_,rfl⟩
def Mo:∀(ks:List Nat)(j:Nat),j<0->ks[j]?=aa j:=λ_ j a=>absurd a (by omega)
def jY:∀j,j<1->([0]:List Nat)[j]?=aa j:=λj a=>by grind
def A6(a b:Int)(u:bA .i64 a)(p:bA .i64 b):∀t:Tr,Ev X 79 [.e (.one (yI t 0)),Pn a b] (vu I1 t) (.e (.one (.ref 0))) [.b8 (nc I1 (t.put a b))]
 |.nil=>by refine Ev.bQ Tryz.func79 rfl λv=>?_;refine bt rfl ay ?_;refine AK.law (tG rfl Tryz.underlying73 rfl rfl rfl) rfl rfl ?_;refine bt rfl ay ?_;refine AK.jq 4 1 0 0 (lt:=.nil) (rt:=.nil) rfl rfl (λh=>absurd rfl h) (λh=>absurd rfl h) (λh=>absurd rfl h) ?_;exact AK.de [1] rfl (by simp) rfl rfl rfl (Mo _)
 |.nd lt x y rt=>by
  have o:=A6 a b u p lt;have i2:=A6 a b u p rt;obtain⟨f,c,m,i,q⟩:=A5 a b lt;obtain⟨d,k,l,j,r⟩:=A5 a b rt;have s:(Tr.nd lt x y rt).put a b=if a<x then .nd (lt.put a b) x y rt else if x<a then .nd lt x y (rt.put a b)else .nd lt a b rt:=rfl;rw[s];rw[q]at o⊢;rw[r]at i2⊢;have c1:bE X [(79,yM [.e (.one (yI lt 0)),Pn a b] (vu I1 lt) (.e (.one (.ref 0))) [.b8 (nc I1 (.nd f c m i))])]:=.cons (Cl o) .nil;have c2:bE X [(79,yM [.e (.one (yI rt 0)),Pn a b] (vu I1 rt) (.e (.one (.ref 0))) [.b8 (nc I1 (.nd d k l j))])]:=.cons (Cl i2) .nil;clear o i2 s q r;refine Ev.bQ Tryz.func79 rfl λv=>?_;refine bt rfl ay ?_;refine AK.law (Tk rfl Tryz.underlying73 rfl rfl rfl rfl) rfl rfl ?_;refine bt rfl ay ?_;refine AK.Ks 0 0 rfl rfl ?_;by_cases g:a<x
  .rw[bl g];cases lt<;>cases rt<;>refine bq c1 [(15,ab)] rfl (by simp only[az,ba,aG,aE];and_intros<;>first|rfl|exact g) ?_
   .refine AK.jq 4 0 2 9 (lt:=.nd f c m i) (rt:=.nil) rfl rfl (λ_=>rfl) (λh=>absurd rfl h) (λ_ h=>absurd rfl h) ?_;exact AK.de [0] rfl (by simp) rfl rfl rfl jY
   .refine AK.jq 4 0 3 2 (lt:=.nd f c m i) (rt:=_) rfl rfl (λ_=>rfl) (λ_=>rfl) (λ_ _=>by decide) ?_;exact AK.de [0] rfl (by simp) rfl rfl rfl jY
   .refine AK.jq 4 0 2 9 (lt:=.nd f c m i) (rt:=.nil) rfl rfl (λ_=>rfl) (λh=>absurd rfl h) (λ_ h=>absurd rfl h) ?_;exact AK.de [0] rfl (by simp) rfl rfl rfl jY
   .refine AK.jq 4 0 2 3 (lt:=.nd f c m i) (rt:=_) rfl rfl (λ_=>rfl) (λ_=>rfl) (λ_ _=>by decide) ?_;exact AK.de [0] rfl (by simp) rfl rfl rfl jY
  rw[aZ g];by_cases n:x<a
  .rw[bl n];cases lt<;>cases rt<;>refine bq c2 [(15,af),(33,ab)] rfl (by simp only[az,ba,bO,aG,aE];and_intros<;>first|rfl|exact g|exact n) ?_
   .refine AK.jq 4 0 9 2 (lt:=.nil) (rt:=.nd d k l j) rfl rfl (λh=>absurd rfl h) (λ_=>rfl) (λh=>absurd rfl h) ?_;exact AK.de [0] rfl (by simp) rfl rfl rfl jY
   .refine AK.jq 4 0 9 2 (lt:=.nil) (rt:=.nd d k l j) rfl rfl (λh=>absurd rfl h) (λ_=>rfl) (λh=>absurd rfl h) ?_;exact AK.de [0] rfl (by simp) rfl rfl rfl jY
   .refine AK.jq 4 0 2 3 (lt:=_) (rt:=.nd d k l j) rfl rfl (λ_=>rfl) (λ_=>rfl) (λ_ _=>by decide) ?_;exact AK.de [0] rfl (by simp) rfl rfl rfl jY
   .refine AK.jq 4 0 2 3 (lt:=_) (rt:=.nd d k l j) rfl rfl (λ_=>rfl) (λ_=>rfl) (λ_ _=>by decide) ?_;exact AK.de [0] rfl (by simp) rfl rfl rfl jY
  .rw[aZ n];cases lt<;>cases rt<;>refine bH [(15,af),(33,af)] rfl (by simp only[az,bO,aG,aE];and_intros<;>first|rfl|exact g|exact n) ?_
   .refine AK.jq 4 0 9 9 (lt:=.nil) (rt:=.nil) rfl rfl (λh=>absurd rfl h) (λh=>absurd rfl h) (λh=>absurd rfl h) ?_;exact AK.de [0] rfl (by simp) rfl rfl rfl jY
   .refine AK.jq 4 0 9 2 (lt:=.nil) (rt:=_) rfl rfl (λh=>absurd rfl h) (λ_=>rfl) (λh=>absurd rfl h) ?_;exact AK.de [0] rfl (by simp) rfl rfl rfl jY
   .refine AK.jq 4 0 2 9 (lt:=_) (rt:=.nil) rfl rfl (λ_=>rfl) (λh=>absurd rfl h) (λ_ h=>absurd rfl h) ?_;exact AK.de [0] rfl (by simp) rfl rfl rfl jY
   .refine AK.jq 4 0 2 3 (lt:=_) (rt:=_) rfl rfl (λ_=>rfl) (λ_=>rfl) (λ_ _=>by decide) ?_;exact AK.de [0] rfl (by simp) rfl rfl rfl jY
end
section
open Go.Proofs Go.Conc Go.Conc.Lib Go.ConcR.Gen
open Go.ConcN (WgLive PayAt Has RW AtR0)
open Go.ConcN.Gen
open Go.ConcR (KK WgAt stA smA rd wr mk Payload DC0)
def KT:KQ=#[{dst:=ae,op:=.defer {callee:=.value (.func 168),args:=#[.tmp 0],argTypes:=#[238]},type:=0,pos:= "l12_snap.go:81",after:=#[],guard:=ae}]:=by kernel_rfl
def bW(a:ah):aR:={baseD 167 with defers:=[dcall 168 #[a]]}
abbrev tW(v0 v1 v2 v3 v4 v5:ah):Array ah:=#[v0,v1,v2,v3,v4,v5,ai,ai,ai,ai,ai,ai,ai]
def Si(v0 v1 v2 v3 v4 v5:ah)(w:aA):Goes ag af (λ_ _=>True) DC0 (λg _=>g=G ((bW v0).aT ⟨tW v0 v1 v2 v3 v4 v5,[]⟩ [.code (.region 1 KR ab)]) [uP]) 8 (born ag (xn #[v0,v1,v2,v3,v4,v5])) w:=by
 have a:True:=ay;have b:True->True->True:=λ_ _=>trivial;refine Goes.step rfl (λw1 h1=>?_);rw[HM];simp only[goes_go];refine⟨⟨rfl,rfl⟩,?_⟩;clear h1;rw[KT]
 u_c aD b a
 u_reg b a
 u_defer b a
 u_c aC b a
 exact Goes.stop λ_ _=>rfl
def YS(T:Array ah):QuitsD ag 2 0 (G {(baseD 167).at ⟨T,[]⟩ []with mode:=.returning} [uP]):=by
 have a:Tryz.f167.results=#[]:=by kernel_rfl
 refine QuitsD.ctl (g':=G uP []) rfl (λw=>?_) ?_
 .simp[G,aH,unwind,doReturn,results,Frame.at,baseD,uP,Tryz.func167,a,seen,GStep.after,goexitEntry]
 refine QuitsD.ctl (g':={G uP []with status:=.finished}) rfl (λw=>?_) ⟨rfl,rfl⟩;simp[G,aH,unwind,uP,goexitEntry,Frame.catches];rfl
section
variable {Y:Lay}{n:Nat}{val:Nat->Nat->ah}
def tailW(x:Nat)(b:Y.kc=2)(T:Array ah)(w:aA)(a:WgLive 238 Y.Wg w/\Has Y.C (Y.kc*x+1-1) (val x 0) w):
  ∃m,Goes ag af (RW 238 Y.Wg Y.C (2*n) 0 (Y.kc*x+1-1)) DC0 (AtR0 ag 238 Y.Wg Y.C (2*n) 0 (Y.kc*x+1) (val x 0)) m (G ((bW (.pointer (aa ⟨Y.Wg,0,ae⟩))).aT ⟨T,[]⟩ [.inRegion uO.toArray []]) [uP]) w:=by
 refine⟨26,?_⟩;have e:(bW (.pointer (aa ⟨Y.Wg,0,ae⟩))).aT ⟨T,[]⟩ [.inRegion uO.toArray []]=(baseD 167).at ⟨T,[dcall 168 #[.pointer (aa ⟨Y.Wg,0,ae⟩)]]⟩ [.inRegion uO.toArray []]:=rfl;rw[e]
 u_c aC kn_rely a
 u_c stepG_end kn_rely a
 u_in kn_rely a
 rw[stepG_unwind_enter (c:=body_done Qn) rfl Cp.f_done (by kernel_rfl) (by kernel_rfl)];simp only[goes_go];refine⟨by u_nil,?_⟩;have d:=Vo (P:=ag) (L:=Qn) (Wg:=Y.Wg) (C:=Y.C) (n:=2*n) (Low:=0) (x:=Y.kc*x+1) (val:=val x 0) (c:={(baseD 167).at ⟨T,[]⟩ []with mode:=.returning}) (cs:=[uP]) Cp rfl (YS T) _ a;exact d
def rd_str{M:Mem}{v:ah}{l:Bs}(h:Rd M v (.str l)):v=.string ⟨l.toArray⟩:=by
 cases h with
 |str h1 h2=>rw[<-h1]
def rd_bool{M:Mem}{v:ah}{b:Bool}(h:Rd M v (.bool b)):v=.bool b:=by cases h;rfl
def TS:au:=oW ae (.store 241 (.tmp 12) (.tmp 11)) 0 #[⟨6,.data⟩,⟨5,.data⟩,⟨5,.chain⟩,⟨0,.phase⟩,⟨1,.phase⟩,⟨2,.phase⟩,⟨3,.phase⟩,⟨4,.phase⟩,⟨5,.phase⟩]
def Vp{x:Nat}(hx:x<n)(z:Y.kc=2){k:Int}{ps:List bG}{I:Int}(F:val x 0=.string ⟨((dK k ps I).getD []).toArray⟩)(A:val x 1=.bool (dK k ps I).isSome){s:St}{T:Array ah}(m:dk [] s (T.getD 12 ai) (xW k ps I n x Y.C 6))(l:dk [] s (T.getD 11 ai) (Xk (dK k ps I))):
  JM ag 238 Y (2*n) val x (G ((bW (.pointer (aa ⟨Y.Wg,0,ae⟩))).aT ⟨T,[]⟩ [.inRegion uO.toArray [7]]) [uP]) s:=by
 have m:T.getD 12 ai=.pointer (aa ⟨Y.C,x*2,ae⟩):=Rd.dZ m;have l:T.getD 11 ai=.agg #[val x 0,val x 1]:=by
  obtain⟨vs,U,d⟩:=l
  match vs,d with
  |[],d=>exact d.elim
  |[_],d=>exact d.2.elim
  |_::_::_::_,d=>exact d.2.2.elim
  |[u0,u1],d =>
   rw[U,rd_str d.1,rd_bool d.2.1,F,A]
 refine⟨rfl,λw1 hr JU KU=>?_⟩;obtain⟨cs,c,Z⟩:=JU;have M:Y.kc*x=x*2:=by grind
 have H:∀v∈[val x 0,val x 1],v.oneCell'=ab:=by
  intro v P;simp only[eE,n7,mq]at P;rcases P with rfl|rfl
  .rw[F];rfl
  .rw[A];rfl
 have r:x*2+0+[val x 0,val x 1].length<=cs.size:=by grind
 have p:=run_storeCells_at ag Y.C (x*2) 241 [val x 0,val x 1] 0 cs w1 c r H;simp only[ir,eU,gx,bC]at p;generalize q:(cs.toList.take (x*2)++[val x 0,val x 1]++cs.toList.drop (x*2+2)).toArray=new at p;have V:new.size=cs.size:=by grind
 have u:=setRow_heap w1 Y.C cs new 241 (0,0) c;have y:∀o,(w1.setRow Y.C new).cell? ⟨Y.C,o,ae⟩=new[o]?:=λo=>cell_setRow_same w1 Y.C o cs new 241 (0,0) c;have K:∀o,w1.cell? ⟨Y.C,o,ae⟩=cs[o]?:=λo=>by simp[aV,c]
 have R:∀i,i<2->new[x*2+i]?=aa (val x i):=by
  intro i hi;rw[<-q];have L:(cs.toList.take (x*2)).length=x*2:=by grind
  rw[lS];simp only[ik];rw[fT (by omega),L]
  match i,hi with
  |0,_=>simp
  |1,_=>simp
 have O:∀o,(o<x*2∨x*2+2<=o)->new[o]?=cs[o]?:=by
  intro o J;rw[<-q];have L:(cs.toList.take (x*2)).length=x*2:=by grind
  rw[lS];simp only[ik];rcases J with J|J
  .grind
  .rw[fT (by omega),L,fT (by grind)];simp only[eU,gx,oX];rw[show x*2+2+(o-x*2-(0+1+1))=o by omega];simp
 have E:(Value.agg #[val x 0,val x 1]).cells=#[val x 0,val x 1]:=rfl;have B:(aw (⟨T,[]⟩:Act).eval TS).run ag w1=.ok .skip (w1.setRow Y.C new):=by have t:(⟨T,[]⟩:Act).eval (.tmp 12)=.pointer (aa ⟨Y.C,x*2,ae⟩):=m;have w:(⟨T,[]⟩:Act).eval (.tmp 11)=.agg #[val x 0,val x 1]:=l;simp[aw,TS,oW,t,w,Instr.storeAt,bo,storeVar,(tok 241 i241 rfl).run_sizeOf,i241,E,p]
 have f:∀e∈(aw (⟨T,[]⟩:Act).eval TS).events ag w1 #[],∃j,j<2/\e=Hb Y.C (x*2+j):=by
  intro Q f;have t:(⟨T,[]⟩:Act).eval (.tmp 12)=.pointer (aa ⟨Y.C,x*2,ae⟩):=m;have w:(⟨T,[]⟩:Act).eval (.tmp 11)=.agg #[val x 0,val x 1]:=l;have e:aw (⟨T,[]⟩:Act).eval TS=(do storeVar 241 ⟨Y.C,x*2,ae⟩ (.agg #[val x 0,val x 1]);pure .skip):=by simp[aw,TS,oW,t,w,Instr.storeAt,bo]
  rw[e]at f;have D:Q∈(storeCells ⟨Y.C,x*2,ae⟩ [val x 0,val x 1]).events ag w1 #[]:=by simp only[storeVar,aM,(tok 241 i241 rfl).run_sizeOf,i241,E,aO,events_sizeOf,dr,b7,bL,bU,Sem.events_pure]at f;simpa[p]using f
  rcases dE [val x 0,val x 1] 0 cs w1 #[] c r H Q D with IN|⟨j,_,S,rfl⟩
  .grind
  grind
 have g:WgLive 238 Y.Wg (w1.setRow Y.C new):=by
  obtain⟨st,N,h⟩:=KU;refine⟨st,N,?_⟩;show(w1.setRow Y.C new).heap[Y.Wg]?=_;rw[setRow_other w1 Y.C Y.Wg new ?_]
  .exact h
  .intro e;have d:w1.heap[Y.Wg]?=aa (Go.ConcR.wgBlock 238 st N):=h;rw[e,c]at d;simp[Go.ConcR.wgBlock]at d;exact absurd d.2 (by decide)
 refine⟨_,w1.setRow Y.C new,_,Fy (b:=bW (.pointer (aa ⟨Y.Wg,0,ae⟩))) (a:=⟨T,[]⟩) (k:=[]) (ops:=uO.toArray) (i:=7) (rest:=[]) (o:=TS) rfl rfl (by simp[bW,baseD]) B,?_,?_,?_⟩
 .refine⟨rfl,rfl,rfl,by simp,λb X=>setRow_other w1 Y.C b new X,⟨new,u,by grind⟩,λo J=>?_,λi hi=>?_⟩
  .grind
  .rw[z]at hi;rw[y,M];grind
 .intro e W;obtain⟨j,S,rfl⟩:=f e (Go.Conc.mem_seen W);exact⟨x*2+j,rfl,by omega,by omega⟩
 .exact tailW x z T _ ⟨g,by show(w1.setRow Y.C new).cell? _=_;grind⟩
def worker{k:Int}(l:ef (Cx.work ag) 169 (l7 k)){x:Nat}(p:x<n)(e:Y.kc=2){ps:List bG}{d:Int}(j:val x 0=.string ⟨((dK k ps d).getD []).toArray⟩)(f:val x 1=.bool (dK k ps d).isSome){s:St}(y:aF [] s)(F:s.β=[]){v1 v2 v3 v4 v5:ah}(v:Rd s.M v1 (.rp [.int .i64 k]))(o:Rd s.M v2 (.rp [.sl af 2 ps.length (cP.fn ps)]))(m:Rd s.M v3 (.rp [.int .i64 d]))(r:Rd s.M v4 (.rp [.val (.slice (aa ⟨Y.C,0,ae⟩) n n)]))(q:Rd s.M v5 (.rp [.int .i64 x])):
  er (Cx.work ag) E0 (JM ag 238 Y (2*n) val x) (born ag (xn #[.pointer (aa ⟨Y.Wg,0,ae⟩),v1,v2,v3,v4,v5])) s:=by
 refine er.goes (X:=Cx.work ag) (R:=λ_ _=>True) (D:=DC0) (Stop:=λg _=>g=G ((bW (.pointer (aa ⟨Y.Wg,0,ae⟩))).aT ⟨tW (.pointer (aa ⟨Y.Wg,0,ae⟩)) v1 v2 v3 v4 v5,[]⟩ [.code (.region 1 KR ab)]) [uP])
  (λb=>aF [] b/\b.M=s.M) (λb s2 h u=>⟨h.1.rely u,u.M.trans h.2⟩) (λ_ _ _ _=>trivial) ?_ (λb h=>ck.wF h.1.mem) ?_ 8 _ s ⟨y,rfl⟩ (Si _ _ _ _ _ _ _)
 .rintro b es h w' ⟨rfl,rfl⟩;exact⟨rfl,.inl (.quiet h.1)⟩
 .rintro g b ⟨i,A⟩ rfl;rw[Ox];refine fz.toE (λ_ _ _ h=>h) ?_;refine(Vn l ps d n x Y.C p (.pointer (aa ⟨Y.Wg,0,ae⟩))).region (by kernel_rfl) (by simp[bW,baseD]) ⟨by simp[tW],⟨[],ay⟩,λt=>?_⟩ rfl i λs2 a E c w B st=>.stop ?_
  .rw[<-A]at v o m r q
   match t with
   |0=>exact Rd.val rfl
   |1=>exact v
   |2=>exact o
   |3=>exact m
   |4=>exact r
   |5=>exact q
   |t+6=>trivial
  .obtain⟨T,z⟩:=a;obtain rfl:z=[]:=w;exact Vp p e j f (c 12) (c 11)
end
end
section
open Go.Proofs Go.Conc Go.Conc.Lib
open Go.ConcN (WgLive PayAt Has RW AtR0)
open Go.ConcR (KK WgAt stA smA rd wr mk Payload DC0)
def xo:Code->Code|.seq a _=>a|c=>c
def kY:Code->Code|.seq _ a=>a|c=>c
def Vq:Code->Code|.block _ a=>a|c=>c
def YT:Code->Code|.loop a=>a|c=>c
def Sj:Code->Array au|.region _ o _=>o|_=>#[]
noncomputable def EB:Code:=(Tryz.f140.body).getD .skip
noncomputable def iE:Code:=YT (Vq (kY (xo (kY (kY (kY EB))))))
noncomputable def cR4:Code:=xo iE
noncomputable def Sk:Code:=Vq (xo (kY (kY iE)))
noncomputable def cR5:Code:=xo Sk
noncomputable def Ay:Array au:=Sj (xo (kY Sk))
noncomputable def yg:Array au:=Sj (kY (kY Sk))
noncomputable def Nc:Code:=kY (kY (kY iE))
noncomputable def nF:Code:=kY (kY (kY (kY EB)))
noncomputable def yh:Array au:=Sj (xo nF)
noncomputable def qL:Code:=kY nF
def Cq:iE=.seq cR4 (.seq (.cond (.tmp 21) .skip (.exit 0)) (.seq (.block 1 (.seq cR5 (.seq (.region 6 Ay af) (.region 7 yg af)))) Nc)):=by kernel_rfl
def KV:nF=.seq (.region 9 yh af) qL:=by kernel_rfl
def NQ(j:Fr)(σ1:List aP):Post:=λe φ σ=>e=.normal/\oi φ j/\σ=σ1
structure At(σ0:List aP)(s0:St)(φ:Fr)(σ:List aP)(a:Act)(s:St):Prop where
 fr:cm 45 σ s φ a
 hh:aF σ s
 st:cR σ0 s0 σ s
section
variable {σ0:List aP}{s0:St}{φ j:Fr}{σ σ1:List aP}{a:Act}{s:St}
def At.rely(h:At σ0 s0 φ σ a s){d:St}(c:ck s d):At σ0 s0 φ σ a d:=⟨h.fr.rely c h.hh,h.hh.rely c,h.st.trans c.stepW⟩
structure Nd(b:Nat)(s:St):Prop where
 own:¬s.own b
 β:∀L∈s.β,b∉L.bs
 M:∀o,s.M b o=ae
 lt:b<s.w.heap.size
def Nd.step{b:Nat}(h:Nd b s0)(st:cR σ0 s0 σ s):Nd b s :=
 ⟨by rw[st.own];exact h.own,λL f e=>by
  rcases st.vd L f b e with h1|⟨c,d,h1⟩
  .have:=h.lt;omega
  .exact h.β c d h1,λo=>by rw[st.iV b h.lt h.β];exact h.M o,cU h.lt st.size⟩
def At.apart{Wg:Nat}(e:Nd Wg s0):Apart Wg (At σ0 s0 φ σ a) :=
 ⟨λ_ _ h d=>h.rely d,λ_ h=>⟨σ,h.hh⟩,λ_ h=>let c:=e.step h.st;⟨c.own,c.β,c.M⟩⟩
variable {X:Cx ag}{S:av->St->Prop}{b:aR}{k:List Item}{cs:List aR}
def At.ctl(h:At σ0 s0 φ σ a s){g g':av}(e:g.status=.running)(d:∀w,aH ag X.main g w=.go g' w #[])(kk:∀c,At σ0 s0 φ σ a c->fz X S g' c):fz X S g s :=
 .ctl h.hh e d λc h1=>kk c (h.rely h1)
def At.code(h:At σ0 s0 φ σ a s)(f:b.kind≠.early){c:Code}(l:AW X 45 c (NQ j σ1) φ σ)(kk:∀a1 s1,At σ0 s0 j σ1 a1 s1->fz X S (G (b.aT a1 k) cs) s1):fz X S (G (b.aT a (.code c::k)) cs) s:=by refine l s a h.fr h.hh b k cs S f ?_;rintro e φ' σ' s' a' ⟨rfl,hl,rfl⟩ i g d;exact kk a' s' ⟨i.le hl,g,h.st.trans d⟩
end
def fz.live{Wg:Nat}{E:St->St->Array Event->Prop}{S:av->St->Prop}{g:av}{s:St}(h:fz (Cx.lead ag 238 Wg) S g s)(f:Clear (λb=>b=Wg) s)(hl:WgLive 238 Wg s.w):
  er (Cx.lead ag 238 Wg) E (λg s=>S g s/\WgLive 238 Wg s.w) g s:=by
 induction h with
 |stop h=>exact⟨.leaf,h,hl⟩
 |@step g s r ns ne hr h1 h2 _ p =>
  refine .step hr λi c=>?_;have m:=c.2 hl;have d:Clear (λb=>b=Wg) i:=⟨λb e=>by rw[c.1.own];exact f.own b e,λb e=>by rw[c.1.β];exact f.β b e,λb e o=>by rw[c.1.M];exact f.M b e o,λb e=>cU (f.lt b e) c.1.size⟩
  obtain⟨⟨σ,σ',hh,l,st⟩,n⟩:=h2 i c;refine⟨_,_,_,h1 i c,.inl ⟨⟨σ,σ',hh,l,st⟩,n⟩,p i c (d.step st) ?_⟩;obtain⟨x,y,q⟩:=m;exact⟨x,y,by show(ns i).w.heap[Wg]?=_;rw[st.fb Wg (d.lt Wg rfl) (d.β Wg rfl)];exact q⟩
 |ghost hg _ p=>exact .ghost hg (p (f.ghost hg) (by rw[hg.w];exact hl))
 |forget hx _ _ _=>exact hx.elim
 |x3 hj _ _=>exact hj.elim
def Nd.clear{Wg:Nat}{s:St}(h:Nd Wg s):Clear (λb=>b=Wg) s:=⟨λb e=>e▸h.own,λb e=>e▸h.β,λb e=>e▸h.M,λb e=>e▸h.lt⟩
section
variable (k:Int)(ps:List bG)(ns:List Int)(C Wg:Nat)
def mZ(i:Nat):Fr:=[(3,.e (.one (.c (.rp [.int .i64 k])))),(4,.e (.one (.c (.rp [.sl af 2 ps.length (cP.fn ps)])))),(8,.e (.one (.c (.rp [.val (.slice (aa ⟨C,0,ae⟩) ns.length ns.length)])))),(9,.e (.one (.v (.pointer (aa ⟨Wg,0,ae⟩))))),
 (18,cI.sl ns),(19,dI ns.length),(20,dI i)]
variable {k ps ns C Wg}{X:Cx ag}{σ:List aP}
def pR4{i:Nat}(hi:i<=ns.length):AW X 45 cR4 (NQ ((21,dB (decide (i<ns.length)))::mZ k ps ns C Wg i) σ) (mZ k ps ns C Wg i) σ:=by
 refine AK.of_code ?_;by_cases h:i<ns.length
 .refine aX [(21,ab)] rfl ?_ ⟨rfl,cE rfl ?_,rfl⟩
  .simp;omega
  .simp[h]
 .refine aX [(21,af)] rfl ?_ ⟨rfl,cE rfl ?_,rfl⟩
  .simp;omega
  .simp[h]
abbrev d5:List aP:=[.dead,.dead,.dead,.dead,.dead]
def pR5{i:Nat}(hi:i<ns.length):AW X 45 cR5 (NQ ((10,.e (.one (.ptr 5 0)))::(11,.e (.one (.ptr 6 0)))::mZ k ps ns C Wg i) [.dead,.dead,.dead,.dead,.dead,.cells 3 [.c (.int .i64 i)],.cells 3 [.c (.int .i64 (ns.getD i 0))]]) (mZ k ps ns C Wg i) d5:=by
 refine AK.of_code ?_;refine bt rfl ?_ ⟨rfl,cE rfl ?_,?_⟩
 .simp;omega
 .simp
 grind
def pR8{i:Nat}(hi:i<ns.length)(c:ns.length<=4000000):AW X 45 Nc (NQ (mZ k ps ns C Wg (i+1)) d5) (mZ k ps ns C Wg i) d5:=by
 refine AK.of_code ?_;refine bt rfl ?_ ⟨rfl,cE rfl ?_,rfl⟩
 .simp[bA];omega
 .simp
variable {σ0:List aP}{s0:St}{S:av->St->Prop}{b:aR}{kk:List Item}{cs:List aR}
abbrev d7:List aP:=[.dead,.dead,.dead,.dead,.dead,.dead,.dead]
variable (k ps ns C Wg)in
abbrev ru(i:Nat):Fr:=(11,.e (.one (.c (.rp [.int .i64 (ns.getD i 0)]))))::(10,.e (.one (.c (.rp [.int .i64 i]))))::mZ k ps ns C Wg i
noncomputable abbrev tJ(kk:List Item):List Item:=.code (.region 7 yg af)::.inBlock 1::.code Nc::.inLoop iE::.inBlock 0::kk
def vA{P:ar}{main:Bool}{b:aR}{a:Act}{k:List Item}{cs:List aR}{w:aA}{c x y:Code}(h:c=.seq x y):aH P main (G (b.aT a (.code c::k)) cs) w=.go (G (b.aT a (.code x::.code y::k)) cs) w:=by grind[oe]
def toAdd{i:Nat}(hi:i<ns.length)(m:b.kind≠.early){a:Act}{s:St}(h:At σ0 s0 (mZ k ps ns C Wg i) d5 a s)(K:∀n l,At σ0 s0 (ru k ps ns C Wg i) d7 n l->fz X S (G (b.aT n (.inRegion Ay [0]::tJ kk)) cs) l):
  fz X S (G (b.aT a (.code iE::.inLoop iE::.inBlock 0::kk)) cs) s:=by
 refine h.ctl rfl (λw=>vA Cq) λs h=>?_;refine h.code m (pR4 (Nat.le_of_lt hi)) λa s h=>?_;refine h.ctl rfl (λw=>oe) λs h=>?_;have q:a.eval (.tmp 21)=.bool ab:=by have:=h.fr.slot 21;simp only[hi,jD]at this;exact rd_bool (eT this)
 refine h.ctl rfl (λw=>ve q) λs h=>?_;refine h.ctl rfl (λw=>Fw) λs h=>?_;refine h.ctl rfl (λw=>oe) λs h=>?_;refine h.ctl rfl (λw=>rU) λs h=>?_;refine h.ctl rfl (λw=>oe) λs h=>?_;have h:At σ0 s0 (mZ k ps ns C Wg i) d5 a s:=⟨h.fr.le (cE rfl (by simp)),h.hh,h.st⟩
 refine h.code m (pR5 hi) λa s h=>?_;obtain⟨l,w1,o,d,g⟩:=cm.freeze 10 5 (E:=3) (cs:=[.c (.int .i64 i)]) (cc:=[.int .i64 i]) rfl rfl rfl h.fr h.hh;refine .ghost (.of h.hh d w1 (g.na h.hh)) ?_;obtain⟨s2,w2,p,f,e⟩:=cm.freeze 11 6 (E:=3) (cs:=[.c (.int .i64 (ns.getD i 0))]) (cc:=[.int .i64 (ns.getD i 0)]) rfl rfl rfl o d;refine .ghost (.of d f w2 (e.na d)) ?_;have h:At σ0 s0 (ru k ps ns C Wg i) d7 a s2:=⟨p.le (cE rfl (by simp)),f,h.st.trans ((g.na h.hh).trans (e.na d))⟩
 refine h.ctl rfl (λw=>oe) λs h=>?_;refine h.ctl rfl (λw=>p9) λs h=>?_;exact K a s h
def o6:au:={dst:=aa 25,op:=.call {callee:=.value (.func 166),args:=#[.tmp 9,.const (.int .i64 1)],argTypes:=#[238,3]},type:=0,pos:= "l12_snap.go:79",after:=#[],guard:=ae}
theorem Gm:Ay=#[o6]:=by kernel_rfl
def KW{i:Nat}(g:b.kind≠.early){a:Act}{s:St}(h:At σ0 s0 (ru k ps ns C Wg i) d7 a s)(K:∀c,At σ0 s0 (ru k ps ns C Wg i) d7 a c->fz X S (G (Frame.enter ag 166 #[.pointer (aa ⟨Wg,0,ae⟩),.int .i64 1] .normal) (b.aT a (.inRegion Ay [0]::tJ kk)::cs)) c):
  fz X S (G (b.aT a (.inRegion Ay [0]::tJ kk)) cs) s:=by
 refine .next rfl λc d=>?_;have e:=h.rely (X.iw d);have m:a.eval (.tmp 9)=.pointer (aa ⟨Wg,0,ae⟩):=Rd.dZ (e.fr.slot 9);have l:(aw a.eval o6).run ag c.w=.ok (.enter 166 #[.pointer (aa ⟨Wg,0,ae⟩),.int .i64 1]) c.w:=by have:=run_call_body (P:=ag) (a:=a) (w:=c.w) (o:=o6) (f:=166) (fn:=Tryz.f166) rfl Tryz.func166 (by kernel_rfl) (by kernel_rfl);rw[this,<-m];simp only[List.map_toArray,pX,List.map_nil];rfl
 have n:(aw a.eval o6).events ag c.w #[]=#[]:=events_call_body (P:=ag) (a:=a) (w:=c.w) (o:=o6) (f:=166) (fn:=Tryz.f166) rfl Tryz.func166 (by kernel_rfl) (by kernel_rfl) #[];have p:listed ag b.fn a o6 c.w=#[]:=by unfold listed;grind[seen_none]
 refine⟨_,c,#[],?_,.quiet e.hh,K c e⟩;have:=o0 (P:=ag) (main:=X.main) (b:=b) (a:=a) (k:=tJ kk) (cs:=cs) (w:=c.w) (ops:=Ay) (i:=0) (rest:=[]) (o:=o6) (by grind[Gm]) rfl g l;grind
def Vr:au:={dst:=aa 26,op:=.makeFunc (.func 167) #[] #[.tmp 9,.tmp 3,.tmp 4,.tmp 11,.tmp 8,.tmp 10],type:=1,pos:= "l12_snap.go:80",after:=#[],guard:=ae}
def Oz:au:={dst:=ae,op:=.go {callee:=.value (.tmp 26),args:=#[],argTypes:=#[]},type:=0,pos:= "l12_snap.go:80",after:=#[⟨0,.data⟩],guard:=ae}
theorem Gn:yg=[Vr,Oz].toArray:=by kernel_rfl
variable (k ps ns C Wg)in
abbrev EC(i:Nat):AM.C:=.fn (.func 167) [] [.val (.pointer (aa ⟨Wg,0,ae⟩)),.rp [.int .i64 k],.rp [.sl af 2 ps.length (cP.fn ps)],.rp [.int .i64 (ns.getD i 0)],.rp [.val (.slice (aa ⟨C,0,ae⟩) ns.length ns.length)],.rp [.int .i64 i]]
def Vs{i:Nat}:OA X 45 [Vr,Oz] Vr ((25,.any)::ru k ps ns C Wg i) d7 (.e (.one (.c (EC k ps ns C Wg i)))) d7:=by have h:wm tt [] [] [Vr,Oz] ((25,.any)::ru k ps ns C Wg i) d7 Vr=aa (.e (.one (.c (EC k ps ns C Wg i))),ae,[]):=rfl;exact gB tok bE.nil h ay
def YU{i:Nat}(n:b.kind≠.early){a:Act}{s:St}(h:At σ0 s0 (ru k ps ns C Wg i) d7 a s)(K:∀v l c,At σ0 s0 (ru k ps ns C Wg i) d7 l c->Rd c.M v (EC k ps ns C Wg i)->l.tmps.getD 26 ai=v->fz X S (G (b.aT l (.inRegion yg [1]::.inBlock 1::.code Nc::.inLoop iE::.inBlock 0::kk)) cs) c):
  fz X S (G (b.aT (a.put (aa 25) (.tuple #[])) (.inRegion Ay []::tJ kk)) cs) s:=by
 have o:At σ0 s0 ((25,.any)::ru k ps ns C Wg i) d7 (a.put (aa 25) (.tuple #[])) s:=⟨h.fr.put (by decide) ay,h.hh,h.st⟩
 refine o.ctl rfl (λw=>iX) λs h=>?_;refine h.ctl rfl (λw=>p9) λs h=>?_;rw[Gn];refine Vs s _ h.fr h.hh b _ cs S 0 [1] n rfl λv c f m e=>?_;have f:Rd c.M v (EC k ps ns C Wg i):=eT f;have p:=((h.fr.mono e h.hh.len).put (d:=26) (v:=v) (x:=.any) (by decide) ay)
 have g:26<(a.put (aa 25) (.tuple #[])).tmps.size:=by rw[h.fr.size];decide
 refine K v _ c ⟨p.le (cE rfl ?_),m,h.st.trans e⟩ f (JZ g);simp
def Sl{i:Nat}(hi:i<ns.length)(n:ns.length<=4000000)(c:b.kind≠.early)(d:σ0.length<=5){a:Act}{s:St}(h:At σ0 s0 (ru k ps ns C Wg i) d7 a s)(K:∀l m,At σ0 s0 (mZ k ps ns C Wg (i+1)) d5 l m->fz X S (G (b.aT l (.code iE::.inLoop iE::.inBlock 0::kk)) cs) m):
  fz X S (G (b.aT a (.inRegion yg []::.inBlock 1::.code Nc::.inLoop iE::.inBlock 0::kk)) cs) s:=by
 have f:cm 45 (d5++[.dead,.dead]) s (mZ k ps ns C Wg i) a:=h.fr.le (cE rfl (by simp));have e:aF (d5++[.dead,.dead]) s:=h.hh;have g:cR σ0 s0 (d5++[.dead,.dead]) s:=h.st;have q:eu s (s.cut d5.length):=⟨rfl,λ_ _ _ h=>h,λ_ _ _=>rfl,e.mem,λb c=>c.imp id λ⟨L,p,c⟩=>⟨L,fW p,c⟩⟩
 refine .ghost q ?_;have h:At σ0 s0 (mZ k ps ns C Wg i) d5 a (s.cut d5.length):=⟨⟨f.size,f.defers.imp λ_ o=>o.drop rfl,λt=>(f.slot t).drop (nB rfl)⟩,e.drop rfl,g.drop d⟩
 refine h.ctl rfl (λw=>iX) λs h=>?_;refine h.ctl rfl (λw=>qU) λs h=>?_;refine h.code c (pR8 hi n) λa s h=>?_;exact h.ctl rfl (λw=>yr) λs h=>K a s h
end
theorem xp{b:aR}(c:b.roundOf=ae)(a:Act)(t:List Item):b.aT a t=b.at ⟨a.tmps,a.defers++b.defers⟩ t:=by cases b;simp only at c;subst c;rfl
section
variable {k:Int}{ps:List bG}{ns:List Int}{Y:Lay}{val:Nat->Nat->ah}{σ0:List aP}{s0:St}{b:aR}{kk:List Item}{cs:List aR}
def Qp{a:Act}{w:aA}{c c1 c2 c3 c4 c5:ah}(d:a.tmps.getD 26 ai=.func (.func 167) #[] #[c,c1,c2,c3,c4,c5]):(aw a.eval Oz).run ag w=.ok (.spawn (xn #[c,c1,c2,c3,c4,c5])) w/\(aw a.eval Oz).events ag w #[]=#[]:=by
 have e:a.eval (.tmp 26)=.func (.func 167) #[] #[c,c1,c2,c3,c4,c5]:=d;constructor
 .simp[aw,Oz,resolve,Deferred.ofValue,e,xn]
 .simp[aw,Oz,resolve,Deferred.ofValue,e]
def Vt(t:ef (Cx.work ag) 169 (l7 k))(l:Y.kc=2)(e:b.roundOf=ae)(A:b.kind≠.early){i:Nat}(hi:i<ns.length)(q:val i 0=.string ⟨((dK k ps (ns.getD i 0)).getD []).toArray⟩)(m:val i 1=.bool (dK k ps (ns.getD i 0)).isSome){v:ah}{a:Act}{s:St}(h:At σ0 s0 (ru k ps ns Y.C Y.Wg i) d7 a s)(B:WgLive 238 Y.Wg s.w)(z:Rd s.M v (EC k ps ns Y.C Y.Wg i))(u:a.tmps.getD 26 ai=v){Next:av->St->Prop}(K:∀c,At σ0 s0 (ru k ps ns Y.C Y.Wg i) d7 a c->WgLive 238 Y.Wg c.w->Next (G (b.aT a (.inRegion yg []::.inBlock 1::.code Nc::.inLoop iE::.inBlock 0::kk)) cs) c):
  AtGo ag 238 Y (2*ns.length) val i Next (G (b.aT a (.inRegion yg [1]::.inBlock 1::.code Nc::.inLoop iE::.inBlock 0::kk)) cs) s:=by
 refine⟨rfl,λc d=>?_⟩;have x:=h.rely d.1;have p:Rd c.M v (EC k ps ns Y.C Y.Wg i):=by rw[d.1.M];exact z
 cases p with
 |fn fs cc Yn UP f1 f2 g1 g2 r1 r2 =>
 have n:fs=[]:=jg Yn;subst n;have g:cc=[f2 0,f2 1,f2 2,f2 3,f2 4,f2 5]:=by
  apply iO;intro j;have UP:cc.length=6:=UP
  match j with
  |0=>grind
  |1=>grind
  |2=>grind
  |3=>grind
  |4=>grind
  |5=>grind
  |j+6=>grind
 subst g;have D:f2 0=.pointer (aa ⟨Y.Wg,0,ae⟩):=Rd.dZ (r2 0 _ rfl);obtain⟨y,q2⟩:=Qp (a:=a) (w:=c.w) u;have f:Go.Conc.listed ag b.fn ⟨a.tmps,a.defers++b.defers⟩ Oz c.w=#[]:=by unfold Go.Conc.listed;have:=(Qp (a:=⟨a.tmps,a.defers++b.defers⟩) (w:=c.w) u).2;grind[seen_none]
 have r:=stepG_spawn (P:=ag) (main:=ab) (b:=b) (a:=⟨a.tmps,a.defers++b.defers⟩) (k:=.inBlock 1::.code Nc::.inLoop iE::.inBlock 0::kk) (cs:=cs) (w:=c.w) (ops:=yg) (i:=1) (rest:=[]) (o:=Oz) (by grind[Gn]) rfl A y rfl;refine⟨G (b.aT a (.inRegion yg []::.inBlock 1::.code Nc::.inLoop iE::.inBlock 0::kk)) cs,born ag (xn #[f2 0,f2 1,f2 2,f2 3,f2 4,f2 5]),?_,rfl,?_,K c x (d.2 B)⟩
 .rw[xp e,xp e,r,f];rfl
 .rw[D];exact worker t hi l q m (s:=c.child) ⟨x.hh.mem,rfl,by simp,by simp[St.child],by simp[St.child],by simp[St.child]⟩ rfl (r2 1 _ rfl) (r2 2 _ rfl) (r2 3 _ rfl) (r2 4 _ rfl) (r2 5 _ rfl)
def o9:au:={dst:=aa 28,op:=.call {callee:=.value (.func 170),args:=#[.tmp 9],argTypes:=#[238]},type:=0,pos:= "l12_snap.go:85",after:=#[],guard:=ae}
theorem Gp:yh=#[o9]:=by kernel_rfl
variable {X:Cx ag}{S:av->St->Prop}
def Sm(g:b.kind≠.early){C Wg:Nat}{a:Act}{s:St}(h:At σ0 s0 (mZ k ps ns C Wg ns.length) d5 a s)(K:∀j c,At σ0 s0 (mZ k ps ns C Wg ns.length) d5 j c->fz X S (G (Frame.enter ag 170 #[.pointer (aa ⟨Wg,0,ae⟩)] .normal) (b.aT j (.inRegion yh [0]::.code qL::kk)::cs)) c):
  fz X S (G (b.aT a (.code iE::.inLoop iE::.inBlock 0::.code nF::kk)) cs) s:=by
 refine h.ctl rfl (λw=>vA Cq) λs h=>?_;refine h.code g (pR4 (bh _)) λa s h=>?_;refine h.ctl rfl (λw=>oe) λs h=>?_;have n:a.eval (.tmp 21)=.bool af:=by have:=h.fr.slot 21;simp only[Nat.lt_irrefl,kA]at this;exact rd_bool (eT this)
 refine h.ctl rfl (λw=>ve n) λs h=>?_;refine h.ctl rfl (λw=>zy (k':=.code nF::kk) rfl) λs h=>?_;refine h.ctl rfl (λw=>vA KV) λs h=>?_;refine h.ctl rfl (λw=>p9) λs h=>?_;have h:At σ0 s0 (mZ k ps ns C Wg ns.length) d5 a s:=⟨h.fr.le (cE rfl (by simp)),h.hh,h.st⟩
 refine .next rfl λc d=>?_;have e:=h.rely (X.iw d);have q:a.eval (.tmp 9)=.pointer (aa ⟨Wg,0,ae⟩):=Rd.dZ (e.fr.slot 9);have m:(aw a.eval o9).run ag c.w=.ok (.enter 170 #[.pointer (aa ⟨Wg,0,ae⟩)]) c.w:=by have:=run_call_body (P:=ag) (a:=a) (w:=c.w) (o:=o9) (f:=170) (fn:=Tryz.f170) rfl Tryz.func170 (by kernel_rfl) (by kernel_rfl);grind
 have p:(aw a.eval o9).events ag c.w #[]=#[]:=events_call_body (P:=ag) (a:=a) (w:=c.w) (o:=o9) (f:=170) (fn:=Tryz.f170) rfl Tryz.func170 (by kernel_rfl) (by kernel_rfl) #[];have l:Go.Conc.listed ag b.fn a o9 c.w=#[]:=by unfold Go.Conc.listed;grind[seen_none]
 refine⟨_,c,#[],?_,.quiet e.hh,K a c e⟩;have:=o0 (P:=ag) (main:=X.main) (b:=b) (a:=a) (k:=.code qL::kk) (cs:=cs) (w:=c.w) (ops:=yh) (i:=0) (rest:=[]) (o:=o9) (by grind[Gp]) rfl g m;rw[l]at this;exact this
section
variable (k ps ns Y σ0 s0 b kk cs)
def Xl(g:av)(s:St):Prop:=∃a,Gd ag Qn Y (At σ0 s0 (mZ k ps ns Y.C Y.Wg ns.length) d5 a) (b.aT a (.inRegion yh [0]::.code qL::kk)) cs g s
def TF(g:av)(s:St):Prop:=∃a,TW ag Qn Y (At σ0 s0 (mZ k ps ns Y.C Y.Wg ns.length) d5 a) (G (b.aT (a.put (aa 28) (.tuple #[])) (.inRegion yh []::.code qL::kk)) cs) g s
end
def anF(f:Nd Y.Wg s0)(c:b.roundOf=ae){g:av}{s:St}(h:Xl k ps ns Y σ0 s0 b kk cs g s):
  er (Cx.lead ag 238 Y.Wg) (Es Y.Wg) (AtW1 ag 238 Y (TF k ps ns Y σ0 s0 b kk cs) (Xl k ps ns Y σ0 s0 b kk cs)) g s:=by
 obtain⟨a,h⟩:=h;have e:(yh[0]?).bind (·.dst)=aa 28:=by rw[Gp];rfl
 rw[xp c]at h;refine U8 (P:=ag) (L:=Qn) (b₀:=b) (a₀:=⟨a.tmps,a.defers++b.defers⟩) (ops₀:=yh) (i₀:=0) (rest₀:=[]) (k₀:=.code qL::kk) (cs:=cs) Cp (At.apart f) (λg s d=>⟨a,?_⟩) (λg s i=>⟨a,?_⟩) h
 .rw[xp c];rw[e]at d;exact d
 grind[xp]
def HN{P:ar}{ty:aj}{N n:Nat}{a:av->St->Prop}:∀(r:Nat){g:av}{s:St},er (Cx.lead P ty Y.Wg) (Es Y.Wg) (λg s=>Spawns P ty Y N val n a r g s) g s->Spawns P ty Y N val n a r g s
 |0,_,_,h=>er.bind h λ_ _ x=>x
 |_+1,_,_,h=>er.bind h λ_ _ x=>x
def OB(A:ef (Cx.work ag) 169 (l7 k))(p:Y.kc=2)(m:Nd Y.Wg s0)(e:b.roundOf=ae)(l:b.kind≠.early)(n:σ0.length<=5)(D:ns.length<=4000000)(y:∀i,i<ns.length->val i 0=.string ⟨((dK k ps (ns.getD i 0)).getD []).toArray⟩)(t:∀i,i<ns.length->val i 1=.bool (dK k ps (ns.getD i 0)).isSome):
  ∀(r:Nat),r<=ns.length->∀(a:Act) (s:St),At σ0 s0 (mZ k ps ns Y.C Y.Wg (ns.length-r)) d5 a s->WgLive 238 Y.Wg s.w ->
   Spawns ag 238 Y (2*ns.length) val ns.length (Xl k ps ns Y σ0 s0 b kk cs) r (G (b.aT a (.code iE::.inLoop iE::.inBlock 0::.code nF::kk)) cs) s:=by
 intro r;induction r with
 |zero =>
  intro _ a s h c;rw[lG]at h;have:=fz.live (E:=Es Y.Wg) (Sm (X:=Cx.lead ag 238 Y.Wg) (kk:=kk) (cs:=cs) (S:=λg s=>∃a,g=G (Frame.enter ag 170 #[.pointer (aa ⟨Y.Wg,0,ae⟩)] .normal) (b.aT a (.inRegion yh [0]::.code qL::kk)::cs)/\At σ0 s0 (mZ k ps ns Y.C Y.Wg ns.length) d5 a s) l h λj o d=>.stop ⟨j,rfl,d⟩) (m.step h.st).clear c;refine er.bind this ?_;rintro g s ⟨⟨a,rfl,h⟩,c⟩;exact Va (P:=ag) (L:=Qn) (Y:=Y) Cp (At.apart m) (λg s B=>⟨a,B⟩) ⟨h,c⟩
 |succ r H =>
  intro J a s h c;have hi:ns.length-(r+1)<ns.length:=by omega
  generalize z:ns.length-(r+1)=i at h hi;have:=fz.live (E:=Es Y.Wg) (toAdd (X:=Cx.lead ag 238 Y.Wg) (kk:=.code nF::kk) (cs:=cs) (S:=λg s=>∃a,g=G (Frame.enter ag 166 #[.pointer (aa ⟨Y.Wg,0,ae⟩),.int .i64 1] .normal) (b.aT a (.inRegion Ay [0]::tJ (.code nF::kk))::cs)/\At σ0 s0 (ru k ps ns Y.C Y.Wg i) d7 a s) hi l h λj o d=>KW l d λs2 h2=>.stop ⟨j,rfl,h2⟩) (m.step h.st).clear c;refine er.bind this ?_;rintro g s ⟨⟨a,rfl,h⟩,c⟩;have I:(Ay[0]?).bind (·.dst)=aa 25:=by rw[Gm];rfl
  rw[xp e];refine YK (P:=ag) (L:=Qn) (Y:=Y) (F:=At σ0 s0 (ru k ps ns Y.C Y.Wg i) d7 a) Cp (At.apart m) (λs u=>?_) ⟨h,c⟩;rw[I];have:=fz.live (E:=Es Y.Wg) (YU (X:=Cx.lead ag 238 Y.Wg) (kk:=.code nF::kk) (cs:=cs) (S:=λg s=>∃v a,g=G (b.aT a (.inRegion yg [1]::.inBlock 1::.code Nc::.inLoop iE::.inBlock 0::.code nF::kk)) cs/\At σ0 s0 (ru k ps ns Y.C Y.Wg i) d7 a s/\Rd s.M v (EC k ps ns Y.C Y.Wg i)/\a.tmps.getD 26 ai=v) l u.1 λv j o d x f=>.stop ⟨v,j,rfl,d,x,f⟩) (m.step u.1.st).clear u.2;rw[xp e]at this;refine er.bind this ?_;rintro g s ⟨⟨v,a,rfl,h,x,f⟩,c⟩;rw[z];refine⟨.leaf,Vt A p e l hi (y i hi) (t i hi) h c x f λo d q=>?_⟩;refine HN r ?_;have:=fz.live (E:=Es Y.Wg) (Sl (X:=Cx.lead ag 238 Y.Wg) (kk:=.code nF::kk) (cs:=cs) (S:=λg s=>∃a,g=G (b.aT a (.code iE::.inLoop iE::.inBlock 0::.code nF::kk)) cs/\At σ0 s0 (mZ k ps ns Y.C Y.Wg (i+1)) d5 a s) hi D l n d λj o d=>.stop ⟨j,rfl,d⟩) (m.step d.st).clear q;refine er.bind this ?_;rintro g s ⟨⟨a,rfl,h⟩,c⟩;refine⟨.leaf,H (by omega) a s ?_ c⟩;grind
end
end
section
open Go.Sort (swp insInner insOuter ltInt)
variable {X:Cx ag}
def Ma(n:Int):Ev X 187 [dI n] [] (dB af) []:=by refine Ev.bQ Tryz.func187 rfl λa=>?_;exact aX [(5,af)] rfl (by simp) (AK.bw rfl)
abbrev Wm:dt:=kr aI (λ_=>dB af) λ_=>[]
def ZC:ef X 187 Wm:=.pz λn _=>Ma n
def Pc(x y:Int):Ev X 161 [dI x,dI y] [] (dB (ltInt x y)) []:=by have a:bE X [(187,Wm)]:=.cons ZC .nil;refine Ev.bQ Tryz.func161 rfl λb=>?_;refine cf a rfl (by simp) (AK.bw rfl ?_);simp[ltInt]
abbrev uz:dt:=oT aI aI (λx y=>dB (ltInt x y)) λ_ _=>[]
def xN:ef X 161 uz:=.sD λx y _=>Pc x y
def eI(d:Array Int)(j:Nat):List C:=[.int .i64 d[j]!]
abbrev kF(n:Nat):D:=.e (.one (.bp 0 (.sl n 1 0 n)))
abbrev bI(n:Nat)(d:Array Int):aP:=.buf 3 1 n (eI d)
def ig:∀j,j<1->([0]:List Nat)[j]?=aa j:=λj a=>by grind
end
section
open Go.Sort (swp insInner insOuter insertionSort ltInt)
variable {X:Cx ag}
def hU{d:Array Int}{i j n:Nat}(g:d.size=n)(hi:i<n)(e:j<n){f:Nat->List C}(b:cv n f (eI d)):cv n (pj j [.int .i64 d[i]!] (pj i [.int .i64 d[j]!] f)) (eI (swp d i j)):=by
 intro k hk;have c:(swp d i j)[k]! = if k=j then d[i]! else if k=i then d[j]! else d[k]! := by unfold swp;grind
 have a:=b k hk;simp only[eI,pj]at a⊢;grind
theorem size_swp(d:Array Int)(i j:Nat):(swp d i j).size=d.size:=by simp[swp]
theorem A2{a j:Nat}{d:Array Int}(h:a<j)(b:ltInt d[j]! d[j-1]! = ab):insInner ltInt a j d=insInner ltInt a (j-1) (swp d j (j-1)):=by
 cases j with
 |zero=>omega
 |succ j =>
  simp only[pQ]at b⊢;rw[insInner,bl];grind
def sS{a j:Nat}{d:Array Int}(h:a<j->ltInt d[j]! d[j-1]! = af):insInner ltInt a j d=d:=by
 cases j with
 |zero=>rfl
 |succ j =>
  simp only[pQ]at h;rw[insInner,aZ];grind
theorem Tg(n:Nat)(d:Array Int)(a b:Nat)(p:d.size=n)(t:b<=n)(v:a<=n)(u:n<=4000000):
  Ev X 155 [kF n,dI a,dI b] [bI n d] (.eX []) [bI n (insertionSort ltInt d a b)]:=by
 have k:bE X [(161,uz)]:=.cons xN .nil;refine Ev.bQ Tryz.func155 rfl λw=>?_;refine bt rfl (by simp[bA];omega) ?_;refine AK.cz 1 (λs:Nat×Array Int=>s.2.size=n/\a+1<=s.1/\s.1<=n+1/\insOuter ltInt a b s.1 s.2=insertionSort ltInt d a b) (λs=>[(0,kF n),(1,dI a),(2,dI b),(6,dI s.1)]) (λs=>[bI n s.2]) (λs=>b-s.1) (a+1,d) rfl ?_ rfl ?_ rfl ⟨p,by omega,by grind,rfl⟩ ?_
 .simp[cv]
 .simp[cv]
 rintro⟨i,d1⟩ ⟨o,hi,g,e⟩;simp only at o hi g e;by_cases h:i<b
 .refine aX [(12,ab)] rfl (by simp;omega) ?_;refine AK.cz 1 (λs:Nat×Array Int=>s.2.size=n/\s.1<=i/\insInner ltInt a s.1 s.2=insInner ltInt a i d1) (λs=>[(0,kF n),(1,dI a),(2,dI b),(6,dI i),(7,dI s.1)]) (λs=>[bI n s.2]) (λs=>s.1) (i,d1) rfl ?_ rfl ?_ rfl ⟨o,by simp,rfl⟩ ?_
  .simp[cv]
  .simp[cv]
  rintro⟨j,d2⟩ ⟨f,r,c⟩;simp only at f r c;by_cases q:a<j
  .have l:((j:Int)-1).toNat=j-1:=by omega
   by_cases m:ltInt d2[j]! d2[j-1]! = ab
   .refine aW k [(18,ab),(29,ab)] rfl ?_ ?_
    .simp[bA,l,m];omega
    refine AK.aQ (j-1,swp d2 j (j-1)) rfl ?_ ?_ ?_ ?_
    .simp;omega
    .simp only[az.cat,az,l,bC,b9,aE,aG];exact hU f (by omega) (by omega) (λ_ _=>rfl)
    .refine⟨by grind[size_swp],by omega,?_⟩;grind[A2]
    .simp;omega
   .refine aW k [(18,ab),(29,af)] rfl ?_ (AK.leaveD rfl rfl ?_)
    .simp[bA,l,m];omega
    refine bt rfl ?_ (AK.aQ (i+1,d2) rfl ?_ ?_ ?_ ?_)
    .simp[bA];omega
    .simp
    .simp[cv]
    .refine⟨f,by omega,by grind,?_⟩;simp only;rw[<-e,insOuter.eq_1 ltInt a b i,bl h,<-c,sS λ_=>by grind]
    .simp;omega
  .refine aW k [(18,af)] rfl ?_ (AK.leaveD rfl rfl ?_)
   .simp[bA];omega
   refine bt rfl ?_ (AK.aQ (i+1,d2) rfl ?_ ?_ ?_ ?_)
   .simp[bA];omega
   .simp
   .simp[cv]
   .refine⟨f,by omega,by grind,?_⟩;simp only;rw[<-e,insOuter.eq_1 ltInt a b i,bl h,<-c,sS λx=>absurd x q]
   .simp;omega
 .refine aX [(12,af)] rfl (by simp;omega) (AK.leaveD rfl rfl ?_);have:insertionSort ltInt d a b=d1:=by rw[<-e,insOuter,aZ h]
  rw[this];exact cp.pv [0] rfl ay rfl rfl rfl ig
end
section
open Go.Sort (swp siftDown ltInt)
variable {X:Cx ag}
def Mi{hi first root:Nat}{d:Array Int}(h:¬2*root+1<hi):siftDown ltInt hi first root d=d:=by rw[siftDown,dif_pos (by omega)]
theorem Mj{hi first root:Nat}{d:Array Int}(h:2*root+1<hi)(b:2*root+1+1<hi->ltInt d[first+(2*root+1)]! d[first+(2*root+1)+1]! = af)(a:ltInt d[first+root]! d[first+(2*root+1)]! = ab):
  siftDown ltInt hi first root d=siftDown ltInt hi first (2*root+1) (swp d (first+root) (first+(2*root+1))):=by rw[siftDown.eq_1 ltInt hi first root d,dif_neg (by omega),aZ (by grind),aZ (by grind)]
theorem GQ{hi first root:Nat}{d:Array Int}(h:2*root+1<hi)(b:2*root+1+1<hi->ltInt d[first+(2*root+1)]! d[first+(2*root+1)+1]! = af)(a:ltInt d[first+root]! d[first+(2*root+1)]! = af):
  siftDown ltInt hi first root d=d:=by rw[siftDown.eq_1 ltInt hi first root d,dif_neg (by omega),aZ (by grind),bl (by grind)]
theorem Tj{hi first root:Nat}{d:Array Int}(h:2*root+1+1<hi)(b:ltInt d[first+(2*root+1)]! d[first+(2*root+1+1)]! = ab)(a:ltInt d[first+root]! d[first+(2*root+1+1)]! = ab):
  siftDown ltInt hi first root d=siftDown ltInt hi first (2*root+1+1) (swp d (first+root) (first+(2*root+1+1))):=by rw[siftDown.eq_1 ltInt hi first root d,dif_neg (by omega),bl (by grind),aZ (by grind),dif_pos (by omega)]
theorem Ph{hi first root:Nat}{d:Array Int}(h:2*root+1+1<hi)(b:ltInt d[first+(2*root+1)]! d[first+(2*root+1+1)]! = ab)(a:ltInt d[first+root]! d[first+(2*root+1+1)]! = af):
  siftDown ltInt hi first root d=d:=by rw[siftDown.eq_1 ltInt hi first root d,dif_neg (by omega),bl (by grind),bl (by grind)]
theorem Pj(n:Nat)(d:Array Int)(lo hi first:Nat)(l:d.size=n)(q:first+hi<=n)(m:lo<=n)(p:n<=4000000):
  Ev X 182 [kF n,dI lo,dI hi,dI first] [bI n d] (.eX []) [bI n (siftDown ltInt hi first lo d)]:=by
 have g:bE X [(161,uz)]:=.cons xN .nil;refine Ev.bQ Tryz.func182 rfl λt=>?_;refine bt rfl ay ?_;refine AK.cz 1 (λs:Nat×Array Int=>s.2.size=n/\s.1<=n/\siftDown ltInt hi first s.1 s.2=siftDown ltInt hi first lo d) (λs=>[(0,kF n),(1,dI lo),(2,dI hi),(3,dI first),(8,dI s.1)]) (λs=>[bI n s.2]) (λs=>hi-s.1) (lo,d) rfl ?_ rfl ?_ rfl ⟨l,m,rfl⟩ ?_
 .simp[cv]
 .simp[cv]
 rintro⟨root,d1⟩ ⟨j,o,f⟩;simp only at j o f;by_cases h:2*root+1<hi
 .have c:((first:Int)+(2*(root:Int)+1)).toNat=first+(2*root+1):=by omega
  have e:((first:Int)+(2*(root:Int)+1)+1).toNat=first+(2*root+1+1):=by omega
  by_cases r:2*root+1+1<hi
  .by_cases i:ltInt d1[first+(2*root+1)]! d1[first+(2*root+1+1)]! = ab
   .have k:((first:Int)+(2*(root:Int)+1+1)).toNat=first+(2*root+1+1):=by omega
    have a:((first:Int)+(root:Int)).toNat=first+root:=by omega
    by_cases b:ltInt d1[first+root]! d1[first+(2*root+1+1)]! = ab
    .refine bq g [(16,af),(20,ab),(35,ab),(51,ab)] rfl ?_ (AK.aQ (2*root+1+1,swp d1 (first+root) (first+(2*root+1+1))) rfl ?_ ?_ ?_ ?_)
     .simp only[az,bC,c,e,a,k,i,b,bA,ba,bO,aG,aE];and_intros<;>omega
     .simp only[az.cat,az,aG,aE];grind
     .simp only[az.cat,az,bC,c,e,a,k,aE,aG];exact hU j (by omega) (by omega) (λ_ _=>rfl)
     .grind [size_swp,Tj]
     grind
    .rw[n8]at b;rw[show siftDown ltInt hi first lo d=d1 by grind[Ph]];refine bq g [(16,af),(20,ab),(35,ab),(51,af)] rfl ?_ (AK.fE (cp.mk [0] rfl ay rfl rfl rfl ig));simp only[az,bC,c,e,a,k,i,b,bA,ba,bO,aG,aE];and_intros<;>omega
   .rw[n8]at i;have a:((first:Int)+(root:Int)).toNat=first+root:=by omega
    by_cases b:ltInt d1[first+root]! d1[first+(2*root+1)]! = ab
    .refine bq g [(16,af),(20,ab),(35,af),(51,ab)] rfl ?_ (AK.aQ (2*root+1,swp d1 (first+root) (first+(2*root+1))) rfl ?_ ?_ ?_ ?_)
     .simp only[az,bC,c,e,a,i,b,bA,ba,bO,aG,aE];and_intros<;>omega
     .simp only[az.cat,az,aG,aE];grind
     .simp only[az.cat,az,bC,c,e,a,aE,aG];exact hU j (by omega) (by omega) (λ_ _=>rfl)
     .grind [size_swp,Mj]
     grind
    .rw[n8]at b;rw[show siftDown ltInt hi first lo d=d1 by grind[GQ]];refine bq g [(16,af),(20,ab),(35,af),(51,af)] rfl ?_ (AK.fE (cp.mk [0] rfl ay rfl rfl rfl ig));simp only[az,bC,c,e,a,i,b,bA,ba,bO,aG,aE];and_intros<;>omega
  .have i:True:=ay;have a:((first:Int)+(root:Int)).toNat=first+root:=by omega
   by_cases b:ltInt d1[first+root]! d1[first+(2*root+1)]! = ab
   .refine bq g [(16,af),(20,af),(51,ab)] rfl ?_ (AK.aQ (2*root+1,swp d1 (first+root) (first+(2*root+1))) rfl ?_ ?_ ?_ ?_)
    .simp only[az,bC,c,e,a,b,bA,ba,bO,aG,aE];and_intros<;>omega
    .simp only[az.cat,az,aG,aE];grind
    .simp only[az.cat,az,bC,c,e,a,aE,aG];exact hU j (by omega) (by omega) (λ_ _=>rfl)
    .grind [size_swp,Mj]
    grind
   .rw[n8]at b;rw[show siftDown ltInt hi first lo d=d1 by grind[GQ]];refine bq g [(16,af),(20,af),(51,af)] rfl ?_ (AK.fE (cp.mk [0] rfl ay rfl rfl rfl ig));simp only[az,bC,c,e,a,b,bA,ba,bO,aG,aE];and_intros<;>omega
 .refine aX [(16,ab)] rfl (by simp only[az,bA,ba,aG,aE];and_intros<;>omega) (AK.leaveD rfl rfl ?_);rw[<-f,Mi h];exact cp.pv [0] rfl ay rfl rfl rfl ig
end
section
open Go.Sort (swp order2 median medianAdjacent choosePivot Hint ltInt)
variable {X:Cx ag}
abbrev bN(k:Nat):aP:=.cells 3 [.c (.int .i64 k)]
abbrev TU:D:=.e (.one (.ptr 1 0))
abbrev tII(a b:Nat):D:=.eX [.one (.c (.int .i64 a)),.one (.c (.int .i64 b))]
def GR:∀j,j<2->([0,1]:List Nat)[j]?=aa j:=λj a=>by grind
def tV(n:Nat)(d:Array Int)(a b sw:Nat)(j:a<n)(g:b<n)(i:n<=4000000)(f:sw<=1000):
  Ev X 219 [kF n,dI a,dI b,TU] [bI n d,bN sw] (tII (order2 ltInt d a b sw).1 (order2 ltInt d a b sw).2.1) [bI n d,bN (order2 ltInt d a b sw).2.2]:=by
 have c:bE X [(161,uz)]:=.cons xN .nil;refine Ev.bQ Tryz.func219 rfl λk=>?_;by_cases h:ltInt d[b]! d[a]! = ab
 .have e:order2 ltInt d a b sw=(b,a,sw+1):=by simp[order2,h]
  rw[e];refine bq c [(18,ab)] rfl ?_ (AK.de [0,1] rfl ?_ rfl rfl rfl GR)
  .simp only[az,bC,b9,h,bA,aG,aE];and_intros<;>omega
  .simp
 .have e:order2 ltInt d a b sw=(a,b,sw):=by simp[order2,h]
  rw[e];rw[n8]at h;refine bq c [(18,af)] rfl ?_ (AK.de [0,1] rfl ?_ rfl rfl rfl GR)
  .simp only[az,bC,b9,h,bA,aG,aE];and_intros<;>omega
  .simp
def nS{d:Array Int}{a b sw n:Nat}(c:a<n)(e:b<n):(order2 ltInt d a b sw).1<n/\(order2 ltInt d a b sw).2.1<n/\(order2 ltInt d a b sw).2.2<=sw+1:=by unfold order2;split<;>simp only<;>omega
theorem ze(n:Nat)(d:Array Int)(a b c sw:Nat)(h:a<n)(g:b<n)(i:c<n)(e:n<=4000000)(k:sw<=900):
  Ev X 186 [kF n,dI a,dI b,dI c,TU] [bI n d,bN sw] (dI (median ltInt d a b c sw).1) [bI n d,bN (median ltInt d a b c sw).2]:=by refine Ev.bQ Tryz.func186 rfl λl=>?_;have f:=nS (d:=d) (sw:=sw) h g;have j:=nS (d:=d) (sw:=(order2 ltInt d a b sw).2.2) f.2.1 i;refine c8 rfl ay ?_;refine AK.cQ (tV n d a b sw h g e (by omega)) [0,1] rfl ?_;refine c8 rfl ay ?_;refine AK.cQ (tV n d (order2 ltInt d a b sw).2.1 c (order2 ltInt d a b sw).2.2 f.2.1 i e (by omega)) [0,1] rfl ?_;refine c8 rfl ay ?_;refine AK.cQ (tV n d (order2 ltInt d a b sw).1 (order2 ltInt d (order2 ltInt d a b sw).2.1 c (order2 ltInt d a b sw).2.2).1 (order2 ltInt d (order2 ltInt d a b sw).2.1 c (order2 ltInt d a b sw).2.2).2.2 f.1 j.1 e (by omega)) [0,1] rfl ?_;refine c8 rfl ay (AK.de [0,1] rfl ?_ rfl rfl rfl GR);simp[median]
def Ix{d:Array Int}{a b c sw n:Nat}(h:a<n)(f:b<n)(i:c<n):(median ltInt d a b c sw).1<n/\(median ltInt d a b c sw).2<=sw+3:=by have e:=nS (d:=d) (sw:=sw) h f;have g:=nS (d:=d) (sw:=(order2 ltInt d a b sw).2.2) e.2.1 i;have j:=nS (d:=d) (sw:=(order2 ltInt d (order2 ltInt d a b sw).2.1 c (order2 ltInt d a b sw).2.2).2.2) e.1 g.1;unfold median;grind
theorem A3(n:Nat)(d:Array Int)(a sw:Nat)(f:1<=a)(e:a+1<n)(c:n<=4000000)(b:sw<=900):
  Ev X 185 [kF n,dI a,TU] [bI n d,bN sw] (dI (medianAdjacent ltInt d a sw).1) [bI n d,bN (medianAdjacent ltInt d a sw).2]:=by
 refine Ev.bQ Tryz.func185 rfl λg=>?_;obtain⟨a,rfl⟩:∃a',a=a'+1:=⟨a-1,by omega⟩
 refine c8 rfl (by simp only[az,bA];and_intros<;>omega) ?_;have key:∀x y z:Int,x=(a:Int)->y=((a+1:Nat):Int)->z=((a+1+1:Nat):Int)->Ev X 186 [kF n,dI x,dI y,dI z,TU] [bI n d,bN sw] (dI (median ltInt d a (a+1) (a+1+1) sw).1) [bI n d,bN (median ltInt d a (a+1) (a+1+1) sw).2]:=by rintro x y z rfl rfl rfl;exact ze n d a (a+1) (a+1+1) sw (by omega) (by omega) (by omega) c b
 refine AK.cQ (key (((a+1:Nat):Int)-1) _ (((a+1:Nat):Int)+1) (by omega) rfl (by omega)) [0,1] rfl ?_;refine c8 rfl ay (AK.de [0,1] rfl ?_ rfl rfl rfl GR);simp[medianAdjacent]
def nR:Hint->Int|.unknown=>0|.increasing=>1|.decreasing=>2
def xQ(n:Nat)(d:Array Int){a b c:Nat}(sw:Nat)(j:a<n)(f:b<n)(k:c<n)(g:n<=4000000)(e:sw<=900){x y z:Int}(l:x=a)(h:y=b)(i:z=c):
  Ev X 186 [kF n,dI x,dI y,dI z,TU] [bI n d,bN sw] (dI (median ltInt d a b c sw).1) [bI n d,bN (median ltInt d a b c sw).2]:=by grind[ze]
def m7(n:Nat)(d:Array Int){a:Nat}(sw:Nat)(f:1<=a)(c:a+1<n)(e:n<=4000000)(b:sw<=900){x:Int}(g:x=a):
  Ev X 185 [kF n,dI x,TU] [bI n d,bN sw] (dI (medianAdjacent ltInt d a sw).1) [bI n d,bN (medianAdjacent ltInt d a sw).2]:=by grind[A3]
def oC{d:Array Int}{a sw n:Nat}(b:1<=a)(c:a+1<n):(medianAdjacent ltInt d a sw).1<n/\(medianAdjacent ltInt d a sw).2<=sw+3 :=
 Ix (by omega) (by omega) (by omega)
abbrev pK(k:Nat):Hint:=if k=0 then .increasing else if k=12 then .decreasing else .unknown
def Mk{d:Array Int}{a l:Nat}(c:8<=l)(b:l<50):choosePivot ltInt d a (a+l)=((median ltInt d (a+l / 4*1) (a+l / 4*2) (a+l / 4*3) 0).1,pK (median ltInt d (a+l / 4*1) (a+l / 4*2) (a+l / 4*3) 0).2):=by unfold choosePivot;grind
abbrev mA(d:Array Int)(a l:Nat):=medianAdjacent ltInt d (a+l / 4*1) 0
abbrev mB(d:Array Int)(a l:Nat):=medianAdjacent ltInt d (a+l / 4*2) (mA d a l).2
abbrev mC(d:Array Int)(a l:Nat):=medianAdjacent ltInt d (a+l / 4*3) (mB d a l).2
def Ml{d:Array Int}{a l:Nat}(b:50<=l):choosePivot ltInt d a (a+l)=((median ltInt d (mA d a l).1 (mB d a l).1 (mC d a l).1 (mC d a l).2).1,pK (median ltInt d (mA d a l).1 (mB d a l).1 (mC d a l).1 (mC d a l).2).2):=by unfold choosePivot;grind
def Iv(n:Nat)(d:Array Int)(a b:Nat)(j:a<=b)(k:b<=n)(i:8<=b-a)(g:n<=4000000):
  Ev X 158 [kF n,dI a,dI b] [bI n d] (.eX [.one (.c (.int .i64 (choosePivot ltInt d a b).1)),.one (.c (.int .i64 (nR (choosePivot ltInt d a b).2)))]) [bI n d]:=by
 refine Ev.bQ Tryz.func158 rfl λo=>?_;obtain⟨l,rfl⟩:∃l,b=a+l:=⟨b-a,by omega⟩
 rw[uY]at i;by_cases h:l<50
 .refine bH [(32,ab),(34,af)] rfl ?_ ?_
  .simp only[az,bA,ba,bO,aG,aE];and_intros<;>omega
  refine AK.cQ (xQ n d (a:=a+l / 4*1) (b:=a+l / 4*2) (c:=a+l / 4*3) 0 (by omega) (by omega) (by omega) g (by omega) (by omega) (by omega) (by omega)) [0,1] rfl ?_;rw[Mk i h];generalize median ltInt d (a+l / 4*1) (a+l / 4*2) (a+l / 4*3) 0=r;by_cases e:r.2=0
  .refine bH [(52,ab)] rfl (by simp[e]) (AK.de [0] rfl ?_ rfl rfl rfl ig);simp[e,nR,pK]
  by_cases f:r.2=12
  .refine bH [(52,af),(55,ab)] rfl (by simp[f]) (AK.de [0] rfl ?_ rfl rfl rfl ig);simp[f,nR,pK]
  .refine bH [(52,af),(55,af)] rfl (by simp[e];omega) (AK.de [0] rfl ?_ rfl rfl rfl ig);simp[e,f,nR,pK]
 .refine bH [(32,ab),(34,ab)] rfl ?_ ?_
  .simp only[az,bA,ba,bO,aG,aE];and_intros<;>omega
  have p:(mA d a l).1<n/\(mA d a l).2<=0+3:=oC (d:=d) (a:=a+l / 4*1) (sw:=0) (n:=n) (by omega) (by omega);have q:(mB d a l).1<n/\(mB d a l).2<=(mA d a l).2+3:=oC (d:=d) (a:=a+l / 4*2) (sw:=(mA d a l).2) (n:=n) (by omega) (by omega);have m:(mC d a l).1<n/\(mC d a l).2<=(mB d a l).2+3:=oC (d:=d) (a:=a+l / 4*3) (sw:=(mB d a l).2) (n:=n) (by omega) (by omega);refine AK.cQ (m7 n d (a:=a+l / 4*1) 0 (by omega) (by omega) g (by omega) (by omega)) [0,1] rfl ?_;refine c8 rfl ay ?_;refine AK.cQ (m7 n d (a:=a+l / 4*2) (mA d a l).2 (by omega) (by omega) g (by omega) (by omega)) [0,1] rfl ?_;refine c8 rfl ay ?_;refine AK.cQ (m7 n d (a:=a+l / 4*3) (mB d a l).2 (by omega) (by omega) g (by omega) (by omega)) [0,1] rfl ?_;refine c8 rfl ay ?_;refine AK.cQ (xQ n d (a:=(mA d a l).1) (b:=(mB d a l).1) (c:=(mC d a l).1) (mC d a l).2 (by omega) (by omega) (by omega) g (by omega) rfl rfl rfl) [0,1] rfl ?_;rw[Ml (by omega)];generalize median ltInt d (mA d a l).1 (mB d a l).1 (mC d a l).1 (mC d a l).2=r;by_cases e:r.2=0
  .refine bH [(52,ab)] rfl (by simp[e]) (AK.de [0] rfl ?_ rfl rfl rfl ig);simp[e,nR,pK]
  by_cases f:r.2=12
  .refine bH [(52,af),(55,ab)] rfl (by simp[f]) (AK.de [0] rfl ?_ rfl rfl rfl ig);simp[f,nR,pK]
  .refine bH [(52,af),(55,af)] rfl (by simp[e];omega) (AK.de [0] rfl ?_ rfl rfl rfl ig);simp[e,f,nR,pK]
end
section
open Go.Sort (swp reverseLoop reverseRange siftDown heapBuild heapPop heapSort ltInt)
variable {X:Cx ag}
def Ti(n:Nat)(d:Array Int)(a b:Nat)(g:d.size=n)(o:1<=b)(p:a<=n)(l:b<=n)(m:n<=4000000):Ev X 159 [kF n,dI a,dI b] [bI n d] (.eX []) [bI n (reverseRange d a b)]:=by
 refine Ev.bQ Tryz.func159 rfl λq=>?_;refine bt rfl (by simp[bA];omega) ?_;refine AK.cz 1 (λs:Nat×Nat×Array Int=>s.2.2.size=n/\s.1<=n/\s.2.1<n+1/\s.2.1<n/\reverseLoop s.1 s.2.1 s.2.2=reverseRange d a b) (λs=>[(0,kF n),(6,dI s.1),(7,dI s.2.1)]) (λs=>[bI n s.2.2]) (λs=>s.2.1-s.1) (a,b-1,d) rfl ?_ rfl ?_ rfl ⟨g,by grind,by grind,by grind,rfl⟩ ?_
 .simp;omega
 .simp[cv]
 rintro⟨i,j,d1⟩ ⟨f,hi,_,k,c⟩;simp only at f hi k c;by_cases h:i<j
 .refine bH [(13,ab)] rfl ?_ (AK.aQ (i+1,j-1,swp d1 i j) rfl ?_ ?_ ?_ ?_)
  .simp only[az,bC,b9,bA,ba,aG,aE];and_intros<;>omega
  .simp only[az.cat,az,aG,aE];and_intros<;>omega
  .simp only[az.cat,az,bC,b9,aE,aG];exact hU f (by omega) (by omega) (λ_ _=>rfl)
  .refine⟨by grind[size_swp],by grind,by grind,by grind,?_⟩;rw[<-c,reverseLoop.eq_1 i j d1,bl h]
  grind
 .have e:reverseRange d a b=d1:=by rw[<-c,reverseLoop,aZ h]
  rw[e];refine aX [(13,af)] rfl (by simp;omega) (AK.leaveD rfl rfl ?_);exact cp.pv [0] rfl ay rfl rfl rfl ig
def C8(n:Nat)(d:Array Int){lo hi first:Nat}(c:d.size=n)(b:first+hi<=n)(e:lo<=n)(a:n<=4000000){x y z:Int}(h:x=lo)(f:y=hi)(g:z=first):
  Ev X 182 [kF n,dI x,dI y,dI z] [bI n d] (.eX []) [bI n (siftDown ltInt hi first lo d)]:=by grind[Pj]
def zf(hi first:Nat):∀(m root:Nat)(d:Array Int),hi-root<=m->(siftDown ltInt hi first root d).size=d.size:=by
 intro m;induction m with
 |zero=>intro root d h;rw[siftDown,dif_pos (by omega)]
 |succ m a =>
  intro root d h;rw[siftDown];grind[size_swp]
theorem Pf(n:Nat)(d:Array Int)(a b:Nat)(p:d.size=n)(m:a<=b)(r:1<=b-a)(o:b<=n)(i:n<=4000000):Ev X 156 [kF n,dI a,dI b] [bI n d] (.eX []) [bI n (heapSort ltInt d a b)]:=by
 refine Ev.bQ Tryz.func156 rfl λt=>?_;obtain⟨l,rfl⟩:∃l,b=a+l:=⟨b-a,by omega⟩
 rw[uY]at r;refine c8 rfl (by simp only[az,bA,aG,aE];and_intros<;>omega) ?_;refine AK.kU (S2:=Array Int) 0 rfl rfl (λd2=>d2.size=n/\d2=heapBuild ltInt l a ((l-1) / 2+1) d) (λ_=>[(0,kF n),(6,dI a),(7,dI 0),(8,dI l)]) (λd2=>[bI n d2]) 1 (λs:Nat×Array Int=>s.2.size=n/\s.1<=(l-1) / 2+1/\heapBuild ltInt l a s.1 s.2=heapBuild ltInt l a ((l-1) / 2+1) d) (λs=>[(0,kF n),(6,dI a),(7,dI 0),(8,dI l),(9,dI ((s.1:Int)-1))]) (λs=>[bI n s.2]) (λs=>s.1) ((l-1) / 2+1,d) rfl ?_ rfl ?_ rfl ⟨p,bh _,rfl⟩ ?_ ?_
 .simp;omega
 .simp[cv]
 .rintro out ⟨k,d1⟩ ⟨e,hk,c⟩;simp only at e hk c;cases k with
  |zero =>
   refine aX [(19,af)] rfl (by simp) (AK.leaveD rfl rfl ?_);exact out d1 ⟨e,c⟩ rfl (by simp) rfl (by simp[cv])
  |succ k =>
   refine aX [(19,ab)] rfl (by simp only[az,ba];omega) ?_;refine AK.cQ (C8 n d1 (lo:=k) (hi:=l) (first:=a) e o (by omega) i (by omega) rfl rfl) [0] rfl ?_;refine c8 rfl ?_ (AK.aQ (k,siftDown ltInt l a k d1) rfl ?_ ?_ ?_ ?_)
   .simp only[az,bA];omega
   .simp only[az.cat,az,aG,aE];omega
   .simp[cv]
   .exact⟨by rw[zf _ _ _ _ _ (bh _)];exact e,by grind,c⟩
   .simp
 rintro g ⟨h,q⟩;refine c8 rfl (by simp only[az,bA];omega) ?_;have f:heapSort ltInt d a (a+l)=heapPop ltInt a l g:=by unfold heapSort;grind
 rw[f];refine AK.cz 1 (λs:Nat×Array Int=>s.2.size=n/\s.1<=l/\heapPop ltInt a s.1 s.2=heapPop ltInt a l g) (λs=>[(0,kF n),(6,dI a),(7,dI 0),(8,dI l),(10,dI ((s.1:Int)-1))]) (λs=>[bI n s.2]) (λs=>s.1) (l,g) rfl ?_ rfl ?_ rfl ⟨h,bh _,rfl⟩ ?_
 .simp
 .simp[cv]
 rintro⟨k,d1⟩ ⟨e,hk,c⟩;simp only at e hk c;cases k with
 |zero =>
  rw[<-c];refine aX [(30,af)] rfl (by simp) (AK.leaveD rfl rfl ?_);exact cp.pv [0] rfl ay rfl rfl rfl ig
 |succ k =>
  have j:((a:Int)+(((k+1:Nat):Int)-1)).toNat=a+k:=by omega
  refine bH [(30,ab),(1000011,ab)] rfl ?_ ?_
  .simp only[az,bC,b9,j,bA,ba,aG,aE];and_intros<;>omega
  refine AK.norm [bI n (swp d1 a (a+k))] rfl ?_ ?_
  .simp only[az.cat,az,bC,b9,j,aE,aG];exact hU e (by omega) (by omega) (λ_ _=>rfl)
  refine c8 rfl ay ?_;refine AK.cQ (C8 n (swp d1 a (a+k)) (lo:=0) (hi:=k) (first:=a) (by grind[size_swp]) (by omega) (by omega) i rfl (by omega) rfl) [0] rfl ?_;refine c8 rfl ?_ (AK.aQ (k,siftDown ltInt k a 0 (swp d1 a (a+k))) rfl ?_ ?_ ?_ ?_)
  .simp only[az,bA];omega
  .simp only[az.cat,az,aG,aE];omega
  .simp[cv]
  .exact⟨by rw[zf _ _ _ _ _ (bh _),size_swp];exact e,by grind,c⟩
  .simp
end
section
open Go.Sort (bitsLen)
variable {X:Cx ag}
def yk:List UInt8:=(bg 256).map λi=>UInt8.ofNat (bitsLen i)
def kz{x k:Nat}(h:x<2 ^ k):bitsLen x<=k:=by
 unfold bitsLen;split
 .omega
 .rename_i a;have:=(Nat.log2_lt a).2 h;omega
theorem Pk{x:Nat}(h:x<256):(iS yk x).toNat=bitsLen x:=by unfold iS yk;rw[b9,aq,mV,List.getElem?_range h];have:=kz (x:=x) (k:=8) h;grind[UInt8.toNat_ofNat']
def uA{n k:Nat}(h:2 ^ k<=n):bitsLen n=k+bitsLen (n / 2 ^ k):=by
 have a:0<2 ^ k:=Nat.two_pow_pos k;have e:0<n / 2 ^ k:=Nat.div_pos h a;unfold bitsLen;rw[aZ (by omega),aZ (by omega)];have d:Nat.log2 n=k+Nat.log2 (n / 2 ^ k):=by
  rw[Nat.log2_eq_iff (by omega)];have b:=Nat.log2_self_le (n:=n / 2 ^ k) (by omega);have c:=Nat.lt_log2_self (n:=n / 2 ^ k);constructor
  .rw[Nat.pow_add,Nat.mul_comm];exact iq (eC _ b) (Nat.div_mul_le_self n _)
  .rw[show k+Nat.log2 (n / 2 ^ k)+1=k+(Nat.log2 (n / 2 ^ k)+1) by omega,Nat.pow_add];grind[Nat.div_lt_iff_lt_mul]
 omega
set_option maxRecDepth 100000 in
def Mm(n:Nat)(h:n<=4000000):Ev X 165 [dQ n] [] (dI (bitsLen n)) []:=by
 refine Ev.bQ Tryz.func165 rfl λi=>?_;have fin:∀{T:List UInt8} {x:Nat},T=yk->x<256->(iS T (x:Int)).toNat=bitsLen x:=λhT hx=>by grind[Pk]
 have c:∀{T:List UInt8},T=yk->T.length=256:=λhT=>by rw[hT];rfl
 by_cases f:65536<=n
 .have b:((n:Int).toNat / 2 ^ Int.toNat 16)=n / 65536:=by simp
  have e:bitsLen n=16+bitsLen (n / 65536):=uA (n:=n) (k:=16) f;have d:=kz (x:=n / 65536) (k:=8) (by grind);refine bH [(4,af),(8,ab),(14,af)] rfl ?_ (AK.bw rfl ?_)
  .generalize hT:(ByteArray.data _).toList=T;have a:T=yk:=by rw[<-hT];decide +kernel
   simp only[az,b,fin a (show n / 65536<256 by omega),c a,bA,ba,bO];and_intros<;>omega
  .generalize hT:(ByteArray.data _).toList=T;have a:T=yk:=by rw[<-hT];decide +kernel
   simp only[az,az.cat,b,fin a (show n / 65536<256 by omega),aG,aE];omega
 by_cases g:256<=n
 .have b:((n:Int).toNat / 2 ^ Int.toNat 8)=n / 256:=by simp
  have e:bitsLen n=8+bitsLen (n / 256):=uA (n:=n) (k:=8) g;have d:=kz (x:=n / 256) (k:=8) (by grind);refine bH [(4,af),(8,af),(14,ab)] rfl ?_ (AK.bw rfl ?_)
  .generalize hT:(ByteArray.data _).toList=T;have a:T=yk:=by rw[<-hT];decide +kernel
   simp only[az,b,fin a (show n / 256<256 by omega),c a,bA,ba,bO];and_intros<;>omega
  .generalize hT:(ByteArray.data _).toList=T;have a:T=yk:=by rw[<-hT];decide +kernel
   simp only[az,az.cat,b,fin a (show n / 256<256 by omega),aG,aE];omega
 .have d:=kz (x:=n) (k:=8) (by grind);refine bH [(4,af),(8,af),(14,af)] rfl ?_ (AK.bw rfl ?_)
  .generalize hT:(ByteArray.data _).toList=T;have a:T=yk:=by rw[<-hT];decide +kernel
   simp only[az,fin a (show n<256 by omega),c a,bA,ba,bO];and_intros<;>omega
  .generalize hT:(ByteArray.data _).toList=T;have a:T=yk:=by rw[<-hT];decide +kernel
   simp only[az,az.cat,fin a (show n<256 by omega),aG,aE];omega
def Mh(n:Nat)(a:n<=4000000):Ev X 139 [dQ n] [] (dI (bitsLen n)) []:=by refine Ev.bQ Tryz.func139 rfl λb=>?_;refine c8 rfl ay ?_;refine AK.Gh ?_;refine c8 rfl ay ?_;refine AK.cQ (Mm n a) [] rfl ?_;exact c8 rfl ay (AK.bw rfl)
end
section
open Go.Sort (swp bitsLen xorNextN xorNextN_lt xorNext xorNext_toNat breakStep breakPatterns)
variable {X:Cx ag}
abbrev bQ(r:Nat):aP:=.cells 254 [.c (.int .u64 r)]
def Pl(r:Nat):Ev X 184 [.e (.one (.ptr 0 0))] [bQ r] (dQ (xorNextN r)) [bQ (xorNextN r)]:=by
 refine Ev.bQ Tryz.func184 rfl λd=>?_;have a:(2:Nat) ^ Int.toNat 13=8192:=by decide
 have c:(2:Nat) ^ Int.toNat 7=128:=by decide
 have b:(2:Nat) ^ Int.toNat 17=131072:=by decide
 refine c8 rfl ?_ ?_
 .simp only[az];omega
 refine AK.norm [bQ (xorNextN r)] rfl ?_ (AK.de [0] rfl ?_ rfl rfl rfl ig)
 .simp only[az,az.cat,xorNextN,b9,a,c,b,aE]
 .simp only[az,az.cat,xorNextN,b9,a,c,b]
theorem Pm(n:Nat)(a:n<=4000000):Ev X 183 [dI n] [] (dQ ((1 <<< bitsLen n:Nat):Int)) []:=by
 refine Ev.bQ Tryz.func183 rfl λb=>?_;have l:=kz (x:=n) (k:=22) (by grind);refine c8 rfl (by simp only[az,bA];and_intros<;>omega) ?_;refine AK.cQ (Mh n a) [] rfl ?_;refine c8 rfl ?_ (AK.bw rfl ?_)
 .simp only[az];omega
 .have c:2 ^ bitsLen n<=2 ^ 22:=Nat.pow_le_pow_right (by omega) l;simp only[az,az.cat,Nat.shiftLeft_eq,b9];grind
def C9{L:Nat}(h:0<L):1 <<< bitsLen L<=2*L:=by rw[Nat.shiftLeft_eq,Nat.one_mul];unfold bitsLen;rw[aZ (by omega),Nat.pow_succ];grind[Nat.log2_self_le]
def Mn(L:Nat):1<=1 <<< bitsLen L:=by rw[Nat.shiftLeft_eq,Nat.one_mul];grind
def TV(a L M:Nat):Nat->Nat->UInt64×Array Int->UInt64×Array Int
 |0,_,st=>st
 |k+1,idx,st=>TV a L M k (idx+1) (breakStep a L M st idx)
def tX{d:Array Int}{a L:Nat}(h:8<=L):breakPatterns d a (a+L)=(TV a L (1 <<< bitsLen L) 3 (a+L / 4*2-1) (UInt64.ofNat L,d)).2:=by unfold breakPatterns;simp only[uY];rw[bl h];rfl
def A4{a L M idx:Nat}{r:UInt64}{d:Array Int}:breakStep a L M (r,d) idx=(xorNext r,swp d idx (a+if(xorNextN r.toNat &&& (M-1))≥L then(xorNextN r.toNat &&& (M-1))-L else(xorNextN r.toNat &&& (M-1)))):=by unfold breakStep;simp only[xorNext_toNat]
abbrev ZD(n a L M:Nat)(k:Nat):Fr:=[(0,kF n),(1,dI a),(6,dI L),(7,.e (.one (.ptr 1 0))),(8,dQ M),(9,dI ((a+L / 4*2-1+(3-k):Nat):Int))]
def Mf(n:Nat)(d:Array Int)(a b:Nat)(p:d.size=n)(q:a<=b)(A:b<=n)(w:n<=4000000):
  Ev X 157 [kF n,dI a,dI b] [bI n d] (.eX []) [bI n (breakPatterns d a b)]:=by
 refine Ev.bQ Tryz.func157 rfl λB=>?_;obtain⟨L,rfl⟩:∃L,b=a+L:=⟨b-a,by omega⟩
 by_cases v:8<=L
 .rw[tX v];have y:=C9 (L:=L) (by omega);have u:=Mn L;have m:(UInt64.ofNat L).toNat=L:=by grind[UInt64.toNat_ofNat']
  refine bH [(15,ab)] rfl ?_ ?_
  .simp only[az,bA,ba,aG,aE];and_intros<;>omega
  have key:∀x:Int,x=(L:Int)->Ev X 183 [dI x] [] (dQ ((1 <<< bitsLen L:Nat):Int)) []:=by grind[Pm]
  refine AK.cQ (key _ (by omega)) [] rfl ?_;refine c8 rfl ?_ ?_
  .simp only[az,bA,ba,aG,aE];and_intros<;>omega
  generalize t:1 <<< bitsLen L=M at *;refine AK.cz 2 (λs:Nat×UInt64×Array Int=>s.2.2.size=n/\s.1<=3/\(TV a L M s.1 (a+L / 4*2-1+(3-s.1)) s.2).2=(TV a L M 3 (a+L / 4*2-1) (UInt64.ofNat L,d)).2) (λs=>ZD n a L M s.1) (λs=>[bI n s.2.2,bQ s.2.1.toNat]) (λs=>s.1) (3,UInt64.ofNat L,d) rfl ?_ rfl ?_ rfl ⟨p,bh _,rfl⟩ ?_
  .simp only[az.cat,az,aG,aE];and_intros<;>omega
  .simp only[az.cat,az,cv,m,aG,aE];grind
  rintro⟨k,r,d1⟩ ⟨l,hk,c⟩;simp only at l hk c;cases k with
  |zero =>
   rw[<-c];refine bH [(33,af)] rfl ?_ (AK.leaveD rfl rfl ?_)
   .simp only[az,bA,bO,aG,aE];and_intros<;>omega
   exact cp.pv [0] rfl ay rfl rfl rfl ig
  |succ k =>
   have z:xorNextN r.toNat<18446744073709551616:=xorNextN_lt _ (UInt64.toNat_lt r);have o:xorNextN r.toNat &&& (M-1)<=M-1:=Nat.and_le_right;have i:((M:Int)-1).toNat=M-1:=by omega
   refine bH [(33,ab)] rfl ?_ ?_
   .simp only[az,bA,ba,aG,aE];and_intros<;>omega
   refine AK.cQ (Pl r.toNat) [1] rfl ?_;have f:=A4 (a:=a) (L:=L) (M:=M) (idx:=a+L / 4*2-1+(3-(k+1))) (r:=r) (d:=d1);generalize j:xorNextN r.toNat &&& (M-1)=O at *;by_cases h:L<=O
   .rw[bl h]at f;have g:((a:Int)+((O:Int)-(L:Int))).toNat=a+(O-L):=by omega
    refine bH [(43,ab)] rfl ?_ (AK.aQ (k,xorNext r,swp d1 (a+L / 4*2-1+(3-(k+1))) (a+(O-L))) rfl ?_ ?_ ?_ ?_)
    .simp only[az,bC,b9,i,j,g,bA,ba,aG,aE];and_intros<;>omega
    .simp only[az.cat,az,aG,aE];omega
    .simp only[az.cat,az,bC,b9,i,j,g,xorNext_toNat,aE,aG];exact hU l (by omega) (by omega) (λ_ _=>rfl)
    .refine⟨by grind[size_swp],by grind,?_⟩;rw[<-c,TV,f,show a+L / 4*2-1+(3-(k+1))+1=a+L / 4*2-1+(3-k) by omega]
    .simp
   .rw[aZ h]at f;have g:((a:Int)+(O:Int)).toNat=a+O:=by omega
    refine bH [(43,af)] rfl ?_ (AK.aQ (k,xorNext r,swp d1 (a+L / 4*2-1+(3-(k+1))) (a+O)) rfl ?_ ?_ ?_ ?_)
    .simp only[az,bC,b9,i,j,g,bA,bO,aG,aE];and_intros<;>omega
    .simp only[az.cat,az,aG,aE];omega
    .simp only[az.cat,az,bC,b9,i,j,g,xorNext_toNat,aE,aG];exact hU l (by omega) (by omega) (λ_ _=>rfl)
    .refine⟨by grind[size_swp],by grind,?_⟩;rw[<-c,TV,f,show a+L / 4*2-1+(3-(k+1))+1=a+L / 4*2-1+(3-k) by omega]
    .simp
 .have e:breakPatterns d a (a+L)=d:=by unfold breakPatterns;grind
  rw[e];refine bH [(15,af)] rfl ?_ ?_
  .simp only[az,bA,bO,aG,aE];and_intros<;>omega
  exact cp.pv [0] rfl ay rfl rfl rfl ig
end
end Go.AM.R1
