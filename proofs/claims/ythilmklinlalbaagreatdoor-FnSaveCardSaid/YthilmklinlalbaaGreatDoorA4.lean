/- Part 4. No condition. -/
import Derived.Test.YthilmklinlalbaaGreatDoorA3
import Derived.Conc.WgGenN2
import Derived.Conc.WgGenN3
import Derived.Conc.LeavingOf
import Derived.Below
import Derived.ProofKit
import Derived.OpenShut
import Derived.OpenVars
import Derived.LaidMore
import Derived.Lay
import Derived.SevenTiedAt
import Derived.Lib.Bytealg
import Derived.Conc.DeferLaws
import Derived.Sort.AssemblyPlain
import Derived.Sort.LotD5
set_option linter.all false
set_option maxHeartbeats 8000000
open Go.Proofs
open Go renaming Value → ah, Program → ar, TypeId → aj, Oper → au, Operand → aq, undef → ai, execOp → aw, World → aA, Goroutine → av, stepG → aH, Frame → aU, FuncId → aJ
open Option renaming some → aa, none → af
open Bool renaming true → ab, false → ae
open Go.World renaming cell? → aV
open List renaming getD_eq_getElem?_getD → ak, range → bh, all_eq_true → bC
open Go.Sem renaming events_bind → aM
open Go.Result renaming evThen_ok → aP
open Go.Instr renaming sureAddr → bq
open Nat renaming beq → aB, ble → bA
open Go.Op renaming equalIn → aZ, bytesLess → bm
open Go.Proofs.Tryz renaming prog → ag
open Go.Conc renaming stepG_seq → aD, stepG_region_end → aC
namespace Go.AM
section
open Go.Conc Go.RowKit Go.Conc.Lib Go.ConcR.Gen
open Go.ConcN (WgLive)
open Go.ConcR (KK WgAt stA smA rd wr mk DC0)
variable {L:WgLink}
section
variable (P:ar)(R:aA->aA->Prop)(L:WgLink)(Wg:Nat)(a:av)
def Zp(g:av)(_:aA):Prop:=g.status=.running/\∃g',(∀w,aH P ab g w=.go g' w #[mk .enable])/\∀w1,WgLive L.tWg Wg w1->∃m,Goes P ab R DC0 (λg _=>g=a) m g' w1
def GRd(g:av)(_:aA):Prop:=g.status=.running/\∃g' ad,ad.block=Wg/\(∀w,aH P ab g w=.go g' w #[mk (.read ad)])/\∀w1,WgLive L.tWg Wg w1->∃m,Goes P ab R DC0 (Zp P R L Wg a) m g' w1
def GA1(g:av)(w:aA):Prop:=g.status=.running/\∀v:Nat,v<2147483647->WgAt L.tWg Wg w (v*KK) 0 ->
 ∃g',aH P ab g w=.go g' (w.setCell (stA Wg) (.int .u64 ((v+1)*KK))) #[rd (stA Wg),wr (stA Wg)]/\∃m,Goes P ab R DC0 (λg w=>GRd P R L Wg a g w∨Zp P R L Wg a g w) m g' (w.setCell (stA Wg) (.int .u64 ((v+1)*KK)))
def GKd(g:av)(_:aA):Prop:=g.status=.running/\∃g',(∀w,aH P ab g w=.go g' w #[mk .disable])/\∀w1,WgLive L.tWg Wg w1->∃m,Goes P ab R DC0 (GA1 P R L Wg a) m g' w1
end
set_option maxRecDepth 100000 in
def OX{P:ar}(H:WgLib P L){R:aA->aA->Prop}{Wg:Nat}(c:∀{w w1},WgLive L.tWg Wg w->R w w1->WgLive L.tWg Wg w1){b₀:aU}{a₀:Act}{ops₀:Array au}{i₀:Nat}{rest₀:List Nat}{k₀:List Item}{cs:List aU}(w:aA)(b:WgLive L.tWg Wg w):
  Goes P ab R DC0 (GKd P R L Wg (G (b₀.at (a₀.put ((ops₀[i₀]?).bind (·.dst)) (.tuple #[])) (.inRegion ops₀ rest₀::k₀)) cs)) 12
   (G ((base L.add).at ⟨#[.pointer (aa ⟨Wg,0,af⟩),.int .i64 1,ai,ai,ai,ai,ai,ai,ai,ai,ai,ai,ai,ai,ai,ai,ai,ai,ai,ai,ai,ai,ai,ai,ai,ai,ai,ai,ai,ai,ai,ai,ai,ai,ai,ai,ai,ai,ai,ai,ai,ai,ai,ai,ai,ai,ai,ai,ai,ai,ai,ai,ai,ai,ai,ai,ai,ai,ai,ai,ai,ai,ai,ai,ai,ai,ai,ai,ai,ai,ai,ai,ai,ai,ai,ai,ai,ai,ai,ai,ai,ai,ai,ai,ai,ai,ai,ai,ai,ai,ai,ai,ai,ai,ai,ai,ai,ai,ai,ai,ai,ai,ai,ai,ai,ai,ai,ai,ai,ai,ai,ai,ai,ai,ai,ai,ai],[]⟩ [.code (body_add L)]) (b₀.at a₀ (.inRegion ops₀ (i₀::rest₀)::k₀)::cs)) w:=by
 lib_facts
 simp only[body_add,addFn,ij]
 repeat (u_c aD c b)
 u_cond ab c b
 repeat (u_c aD c b)
 u_reg c b
 u_op c b
 u_op c b
 u_c aC c b
 repeat (u_c aD c b)
 u_cond ae c b
 u_c stepG_skip c b
 repeat (u_c aD c b)
 u_reg c b
 refine Goes.stop (λm g=>?_);refine⟨rfl,_,λw=>stepG_mark0 .disable (by simp) rfl rfl (by k_ne) rfl H.f_disable (x_disable_n L) (x_disable_b L) (x_disable_x L) (x_disable_f L),λw b=>?_⟩;clear g;refine⟨40,?_⟩
 walk_nrm
 u_c aC c b
 repeat (u_c aD c b)
 u_reg c b
 u_defer c b
 u_c aC c b
 repeat (u_c aD c b)
 u_reg c b
 u_op c b
 u_c aC c b
 repeat (u_c aD c b)
 u_reg c b
 u_bub c b
 u_c aC c b
 repeat (u_c aD c b)
 u_cond ae c b
 u_c stepG_skip c b
 repeat (u_c aD c b)
 u_reg c b
 u_op c b
 u_op c b
 u_op c b
 u_op c b
 u_op c b
 u_op c b
 u_call H.f_uAdd (nm_uAdd L) uAddFn c b
 repeat (u_c aD c b)
 u_reg c b
 u_op c b
 u_c aC c b
 repeat (u_c aD c b)
 u_reg c b
 u_op c b
 u_op c b
 u_op c b
 u_op c b
 refine Goes.stop (λf e=>?_);replace b:=c b e;clear e;refine⟨rfl,λv q j=>?_⟩;have k:KK=4294967296:=rfl;have o:IntKind.u64.wrap ((v:Int)*KK+4294967296)=((v:Int)+1)*KK:=by rw[IntKind.wrap_u64];simp only[k];omega
 refine⟨_,(stepG_add_atomic rfl rfl (by k_ne) rfl H.f_addU64 (x_addU64_n L) (x_addU64_b L) (x_addU64_x L) .u64 (x_addU64_f L) rfl rfl j.cellSt (j.thaw 0)).trans (by rw[o];rfl),110,?_⟩;replace b:WgLive L.tWg Wg (f.setCell (stA Wg) (.int .u64 (((v:Int)+1)*KK))):=⟨_,_,j.setSt _⟩
 clear j
 walk_nrm
 u_op c b
 u_c aC c b
 u_c stepG_ret' c b
 u_leave1 H.f_uAdd c b
 u_op c b
 u_c aC c b
 have t:bits .and .u64 (((v:Int)+1)*4294967296) 2147483648=0:=by have:=Go.ConcN.st_flag (v+1) 0 (by omega) (by omega);grind
 have r:bits .and .u64 (((v:Int)+1)*4294967296) 2147483647=0:=by have:=Go.ConcN.st_waiters (v+1) 0 (by omega) (by omega);grind
 have x:((v:Int)+1+2147483648) % 4294967296-2147483648=(v:Int)+1:=by omega
 have s:¬((v:Int)+1<0):=by omega
 have u:(0:Int)<(v:Int)+1:=by omega
 repeat (u_c aD c b)
 u_reg c b
 u_op c b
 u_op c b
 u_op c b
 u_op c b
 u_skip c b
 u_skip c b
 u_op c b
 u_c aC c b
 repeat (u_c aD c b)
 u_cond ae c b
 u_c stepG_skip c b
 repeat (u_c aD c b)
 u_reg c b
 u_op c b
 u_op c b
 u_op c b
 u_op c b
 u_c aC c b
 repeat (u_c aD c b)
 u_reg c b
 u_op c b
 u_op c b
 u_op c b
 u_op c b
 u_c aC c b
 by_cases n:(v:Int)+1=1
 .repeat (u_c aD c b)
  u_reg c b
  u_op c b
  u_op c b
  u_op c b
  u_op c b
  u_op c b
  u_op c b
  u_op c b
  u_op c b
  u_op c b
  u_op c b
  u_c aC c b
  repeat (u_c aD c b)
  u_cond ab c b
  repeat (u_c aD c b)
  u_reg c b
  u_op c b
  u_op c b
  u_op c b
  u_conv H.underlying_tPU32 H.room_tU32 (Go.ConcN.Gen.WgLive.cell1 b).choose_spec c b
  refine Goes.stop (λl i=>.inl ?_);clear i;refine⟨rfl,_,⟨Wg,1,af⟩,rfl,λw=>stepG_markAt .read (by simp) rfl rfl (by k_ne) rfl H.f_raceRead (x_raceRead_n L) (x_raceRead_b L) (x_raceRead_x L) (x_raceRead_f L) (ad:=⟨Wg,1,af⟩) (by simp[Act.eval]),λw b=>⟨50,?_⟩⟩
  walk_nrm
  u_c aC c b
  repeat (u_c aD c b)
  u_reg c b
  u_op c b
  u_op c b
  u_c aC c b
  repeat (u_c aD c b)
  u_cond ae c b
  u_c stepG_skip c b
  repeat (u_c aD c b)
  u_reg c b
  u_op c b
  u_op c b
  u_op c b
  u_skip c b
  u_skip c b
  u_op c b
  u_op c b
  u_skip c b
  u_skip c b
  u_skip c b
  u_skip c b
  u_op c b
  u_c aC c b
  repeat (u_c aD c b)
  u_cond ae c b
  u_c stepG_skip c b
  repeat (u_c aD c b)
  u_reg c b
  u_op c b
  u_op c b
  u_op c b
  u_skip c b
  u_skip c b
  u_op c b
  u_c aC c b
  repeat (u_c aD c b)
  u_cond ab c b
  u_c stepG_ret' c b
  refine Goes.stop (λh d=>?_);clear d;refine⟨rfl,_,λw=>stepG_unwind_entry (v:=.tuple #[]) (evs:=#[mk .enable]) rfl H.f_enable (x_enable_n L) (x_enable_b L) (x_enable_x L) (x_enable_f L) (by simp[Extern.Race.none_]) (by simp[mk]) (by simp[mk]),λw b=>⟨1,?_⟩⟩
  u_leave0 H.f_add c b
  grind[Goes.stop]
 .have p:((v:Int)+1==1)=ae:=by grind
  repeat (u_c aD c b)
  u_reg c b
  u_op c b
  u_op c b
  u_op c b
  u_op c b
  u_op c b
  u_op c b
  u_op c b
  u_op c b
  u_op c b
  u_op c b
  u_c aC c b
  repeat (u_c aD c b)
  u_cond ae c b
  u_c stepG_skip c b
  repeat (u_c aD c b)
  u_reg c b
  u_op c b
  u_op c b
  u_c aC c b
  repeat (u_c aD c b)
  u_cond ae c b
  u_c stepG_skip c b
  repeat (u_c aD c b)
  u_reg c b
  u_op c b
  u_op c b
  u_op c b
  u_skip c b
  u_skip c b
  u_op c b
  u_op c b
  u_skip c b
  u_skip c b
  u_skip c b
  u_skip c b
  u_op c b
  u_c aC c b
  repeat (u_c aD c b)
  u_cond ae c b
  u_c stepG_skip c b
  repeat (u_c aD c b)
  u_reg c b
  u_op c b
  u_op c b
  u_op c b
  u_skip c b
  u_skip c b
  u_op c b
  u_c aC c b
  repeat (u_c aD c b)
  u_cond ab c b
  u_c stepG_ret' c b
  refine Goes.stop (λh d=>.inr ?_);clear d;refine⟨rfl,_,λw=>stepG_unwind_entry (v:=.tuple #[]) (evs:=#[mk .enable]) rfl H.f_enable (x_enable_n L) (x_enable_b L) (x_enable_x L) (x_enable_f L) (by simp[Extern.Race.none_]) (by simp[mk]) (by simp[mk]),λw b=>⟨1,?_⟩⟩
  u_leave0 H.f_add c b
  grind[Goes.stop]
end
section
open Go.Conc Go.RowKit Go.Conc.Lib Go.ConcR.Gen
open Go.ConcN (WgLive)
open Go.ConcR (KK WgAt stA smA rd wr mk DC0)
section
variable (P:ar)(R:aA->aA->Prop)(L:WgLink)(Wg:Nat)(a:av)(b:av->Prop)
def VN(g:av)(_:aA):Prop:=g.status=.running/\∃g',(∀w,aH P ab g w=.go g' w #[mk (.acquire (stA Wg))])/\∀w1,WgLive L.tWg Wg w1->∃m,Goes P ab R DC0 (λg _=>g=a) m g' w1
def Zq(g:av)(_:aA):Prop:=g.status=.running/\∃g',(∀w,aH P ab g w=.go g' w #[mk .enable])/\∀w1,WgLive L.tWg Wg w1->∃m,Goes P ab R DC0 (VN P R L Wg a) m g' w1
def HW4(g:av)(w:aA):Prop:=g.status=.running/\(WgAt L.tWg Wg w 0 0->∃g',aH P ab g w=.go g' w #[rd (stA Wg)]/\∃m,Goes P ab R DC0 (Zq P R L Wg a) m g' w)
def HW3(g:av)(w:aA):Prop:=g.status=.running/\g.offers=af/\((∃st,WgAt L.tWg Wg w st 0)->aH P ab g w=.go {g with status:=.blocked} w #[]) /\
 (WgAt L.tWg Wg w 0 1->∃g',aH P ab g w=.go g' (w.setCell (smA Wg) (.int .u32 0)) (semEvents (smA Wg))/\∃m,Goes P ab R DC0 (HW4 P R L Wg a) m g' (w.setCell (smA Wg) (.int .u32 0)))
def HWr(g:av)(_:aA):Prop:=g.status=.running/\∃g' ad,ad.block=Wg/\(∀w,aH P ab g w=.go g' w #[mk (.write ad)])/\∀w1,WgLive L.tWg Wg w1->∃m,Goes P ab R DC0 (HW3 P R L Wg a) m g' w1
def HW2(vs:Nat)(g:av)(w:aA):Prop:=g.status=.running/\∀v:Nat,v<2147483648->WgAt L.tWg Wg w (v*KK) 0 ->
 (v=vs->∃g',aH P ab g w=.go g' (w.setCell (stA Wg) (.int .u64 (v*KK+1))) #[rd (stA Wg),wr (stA Wg)]/\∃m,Goes P ab R DC0 (HWr P R L Wg a) m g' (w.setCell (stA Wg) (.int .u64 (v*KK+1)))) /\
 (v≠vs->∃g',aH P ab g w=.go g' w #[rd (stA Wg)]/\∃m,Goes P ab R DC0 (λg _=>b g) m g' w)
def HW1(g:av)(w:aA):Prop:=g.status=.running/\∀v:Nat,v<2147483648->WgAt L.tWg Wg w (v*KK) 0 ->
 ∃g',aH P ab g w=.go g' w #[rd (stA Wg)]/\(v=0->∃m,Goes P ab R DC0 (Zq P R L Wg a) m g' w)/\(v≠0->∃m,Goes P ab R DC0 (HW2 P R L Wg a b v) m g' w)
def HKd(g:av)(_:aA):Prop:=g.status=.running/\∃g',(∀w,aH P ab g w=.go g' w #[mk .disable])/\∀w1,WgLive L.tWg Wg w1->∃m,Goes P ab R DC0 (λg _=>b g) m g' w1
end
def SM(L:WgLink)(Wg:Nat)(c:aU)(cs:List aU)(g:av):Prop :=
 ∃T:Array ah,g=G ((base L.wait).at ⟨T,[]⟩ [.code (L7 L),.inLoop (L7 L),.inBlock 0]) (c::cs)/\T.size=84/\T[0]?=aa (.pointer (aa ⟨Wg,0,af⟩))
set_option maxRecDepth 100000 in
def E4{L:WgLink}{P:ar}(H:WgLib P L){R:aA->aA->Prop}{Wg:Nat}(b:∀{w w1},WgLive L.tWg Wg w->R w w1->WgLive L.tWg Wg w1){c:aU}{cs:List aU}(w:aA)(a:WgLive L.tWg Wg w):
  Goes P ab R DC0 (HKd P R L Wg (SM L Wg c cs)) 6 (G ((base L.wait).at ⟨#[.pointer (aa ⟨Wg,0,af⟩),ai,ai,ai,ai,ai,ai,ai,ai,ai,ai,ai,ai,ai,ai,ai,ai,ai,ai,ai,ai,ai,ai,ai,ai,ai,ai,ai,ai,ai,ai,ai,ai,ai,ai,ai,ai,ai,ai,ai,ai,ai,ai,ai,ai,ai,ai,ai,ai,ai,ai,ai,ai,ai,ai,ai,ai,ai,ai,ai,ai,ai,ai,ai,ai,ai,ai,ai,ai,ai,ai,ai,ai,ai,ai,ai,ai,ai,ai,ai,ai,ai,ai,ai],[]⟩ [.code (body_wait L)]) (c::cs)) w:=by
 lib_facts
 unfold SM;simp only[L7,body_wait,waitFn,ij]
 repeat (u_c aD b a)
 u_cond ab b a
 repeat (u_c aD b a)
 u_reg b a
 refine Goes.stop (λe d=>?_);clear d;refine⟨rfl,_,λw=>stepG_mark0 .disable (by simp) rfl rfl (by k_ne) rfl H.f_disable (x_disable_n L) (x_disable_b L) (x_disable_x L) (x_disable_f L),λw a=>⟨6,?_⟩⟩
 walk_nrm
 u_c aC b a
 repeat (u_c aD b a)
 u_c stepG_block b a
 u_c stepG_loop b a
 exact Goes.stop λ_ _=>⟨_,rfl,rfl,rfl⟩
end
section
open Go.Conc Go.RowKit Go.Conc.Lib Go.ConcR.Gen
open Go.ConcN (WgLive)
open Go.ConcN.Gen
open Go.ConcR (KK WgAt stA smA rd wr mk DC0)
set_option maxRecDepth 100000 in
def E3{L:WgLink}{P:ar}(H:WgLib P L){R:aA->aA->Prop}{Wg:Nat}(b:∀{w w1},WgLive L.tWg Wg w->R w w1->WgLive L.tWg Wg w1){b₀:aU}{a₀:Act}{ops₀:Array au}{i₀:Nat}{rest₀:List Nat}{k₀:List Item}{cs:List aU}(g:av)(hg:SM L Wg (b₀.at a₀ (.inRegion ops₀ (i₀::rest₀)::k₀)) cs g)(w:aA)(a:WgLive L.tWg Wg w):
  ∃m,Goes P ab R DC0 (HW1 P R L Wg (G (b₀.at (a₀.put ((ops₀[i₀]?).bind (·.dst)) (.tuple #[])) (.inRegion ops₀ rest₀::k₀)) cs) (SM L Wg (b₀.at a₀ (.inRegion ops₀ (i₀::rest₀)::k₀)) cs)) m g w:=by
 lib_facts
 obtain⟨T,rfl,q,s⟩:=hg;obtain⟨v0,v1,v2,v3,v4,v5,v6,v7,v8,v9,v10,v11,v12,v13,v14,v15,v16,x,A,v19,v20,v21,v22,O,v24,v25,M,v27,v28,v29,v30,v31,Q,v33,v34,v35,v36,v37,B,F,y,v41,v42,J,v44,z,v46,v47,v48,X,v50,v51,v52,C,v54,v55,v56,U,v58,v59,v60,v61,K,v63,Y,v65,v66,V,D,I,v70,N,E,v73,v74,v75,W,v77,u,v79,v80,v81,Z,v83,rfl⟩:=array84 T q;simp only[iB,kB,dw]at s;subst s;refine⟨30,?_⟩;unfold SM;simp only[L7,body_wait,waitFn,ij]
 u_c stepG_block b a
 repeat (u_c aD b a)
 u_reg b a
 u_op b a
 u_op b a
 u_op b a
 u_call H.f_uLoad (nm_uLoad L) uLoadFn b a
 repeat (u_c aD b a)
 u_reg b a
 u_op b a
 u_c aC b a
 repeat (u_c aD b a)
 u_reg b a
 u_op b a
 u_op b a
 u_op b a
 refine Goes.stop (λo j=>?_);replace a:=b a j;clear j;refine⟨rfl,λv hv d=>?_⟩;rcases nj v with rfl|hvp
 .replace d:WgAt L.tWg Wg o 0 0:=by grind
  refine⟨_,stepG_load_atomic (v:=0) rfl rfl (by k_ne) rfl H.f_loadU64 (x_loadU64_n L) (x_loadU64_b L) (x_loadU64_x L) .u64 (x_loadU64_f L) rfl d.cellSt,λ_=>⟨80,?_⟩,λh=>absurd rfl h⟩;clear d
  walk_nrm
  u_op b a
  u_c aC b a
  u_c stepG_ret' b a
  u_leave1 H.f_uLoad b a
  u_op b a
  u_c aC b a
  repeat (u_c aD b a)
  u_reg b a
  u_op b a
  u_op b a
  u_op b a
  u_op b a
  u_c aC b a
  repeat (u_c aD b a)
  u_reg b a
  u_op b a
  u_op b a
  u_op b a
  u_op b a
  u_c aC b a
  repeat (u_c aD b a)
  u_reg b a
  u_op b a
  u_op b a
  u_c aC b a
  repeat (u_c aD b a)
  u_cond ab b a
  repeat (u_c aD b a)
  u_cond ab b a
  repeat (u_c aD b a)
  u_reg b a
  refine Goes.stop (λf c=>?_);clear c;refine⟨rfl,_,λw=>stepG_mark0 .enable (by simp) rfl rfl (by k_ne) rfl H.f_enable (x_enable_n L) (x_enable_b L) (x_enable_x L) (x_enable_f L),λw a=>⟨20,?_⟩⟩
  walk_nrm
  u_c aC b a
  repeat (u_c aD b a)
  u_reg b a
  u_op b a
  u_conv H.underlying_tWgP H.room_tWg (Go.ConcN.Gen.WgLive.cell0 a).choose_spec b a
  refine Goes.stop (λf c=>?_);clear c;refine⟨rfl,_,λw=>stepG_markAt .acquire (by simp) rfl rfl (by k_ne) rfl H.f_acquire (x_acquire_n L) (x_acquire_b L) (x_acquire_x L) (x_acquire_f L) (by simp[Act.eval,stA]),λw a=>⟨40,?_⟩⟩
  walk_nrm
  u_c aC b a
  repeat (u_c aD b a)
  u_reg b a
  u_op b a
  u_op b a
  u_op b a
  u_op b a
  u_op b a
  u_op b a
  u_op b a
  u_op b a
  u_skip b a
  u_skip b a
  u_op b a
  u_c aC b a
  repeat (u_c aD b a)
  u_cond ae b a
  u_c stepG_skip b a
  u_c stepG_ret' b a
  u_leave0 H.f_wait b a
  grind[Goes.stop]
 .obtain⟨S,l⟩:∃S:Int,(v:Int)*KK=S:=⟨_,rfl⟩;have a1:S / 4294967296=(v:Int):=by rw[<-l];simp only[KK];omega
  have b1:bits .and .u64 S 2147483648=0:=by rw[<-l];have:=Go.ConcN.st_flag v 0 (by omega) (by omega);simpa[KK]using this
  have b2:bits .and .u64 S 2147483647=0:=by rw[<-l];have:=Go.ConcN.st_waiters v 0 (by omega) (by omega);simpa[KK]using this
  have c1:IntKind.i32.wrap (v:Int)=(v:Int):=by grind[IntKind.wrap_i32]
  have w1:IntKind.u64.wrap (S+1)=S+1:=by rw[IntKind.wrap_u64,<-l];simp only[KK];omega
  have q3:decide ((v:Int)<0)=ae:=iC (by omega);have q4:decide (0<(v:Int))=ab:=dc (by omega);have q5:((v:Int)==0)=ae:=by grind
  have q6:decide ((v:Int)=0)=ae:=iC (by omega);rw[l]at d;refine⟨_,stepG_load_atomic (v:=S) rfl rfl (by k_ne) rfl H.f_loadU64 (x_loadU64_n L) (x_loadU64_b L) (x_loadU64_x L) .u64 (x_loadU64_f L) rfl d.cellSt,λh0=>absurd h0 (by omega),λ_=>⟨80,?_⟩⟩;clear d
  walk_nrm
  u_op b a
  u_c aC b a
  u_c stepG_ret' b a
  u_leave1 H.f_uLoad b a
  u_op b a
  u_c aC b a
  repeat (u_c aD b a)
  u_reg b a
  u_op b a
  u_op b a
  u_op b a
  u_op b a
  u_c aC b a
  repeat (u_c aD b a)
  u_reg b a
  u_op b a
  u_op b a
  u_op b a
  u_op b a
  u_c aC b a
  repeat (u_c aD b a)
  u_reg b a
  u_op b a
  u_op b a
  u_c aC b a
  repeat (u_c aD b a)
  u_cnd ae b a
  u_c stepG_skip b a
  repeat (u_c aD b a)
  u_reg b a
  u_op b a
  u_op b a
  u_op b a
  u_op b a
  u_op b a
  u_op b a
  u_call H.f_uCas (nm_uCas L) uCasFn b a
  repeat (u_c aD b a)
  u_reg b a
  u_op b a
  u_c aC b a
  repeat (u_c aD b a)
  u_reg b a
  u_op b a
  u_op b a
  u_op b a
  u_op b a
  u_op b a
  refine Goes.stop (λf c=>?_);replace a:=b a c;clear c;refine⟨rfl,λv' Xt d=>⟨λe=>?_,λe=>?_⟩⟩
  .subst e;rw[l]at d⊢;refine⟨_,(stepG_cas_hit (v:=S) (n:=S+1) rfl rfl (by k_ne) rfl H.f_casU64 (x_casU64_n L) (x_casU64_b L) (x_casU64_x L) .u64 (x_casU64_f L) rfl rfl rfl d.cellSt (d.thaw 0)).trans (by rfl),90,?_⟩;replace a:WgLive L.tWg Wg (f.setCell (stA Wg) (.int .u64 (S+1))):=⟨_,_,d.setSt _⟩
   clear d
   walk_nrm
   u_op b a
   u_c aC b a
   u_c stepG_ret' b a
   u_leave1 H.f_uCas b a
   u_c aC b a
   repeat (u_c aD b a)
   u_cond ab b a
   repeat (u_c aD b a)
   u_reg b a
   u_op b a
   u_op b a
   u_op b a
   u_op b a
   u_c aC b a
   repeat (u_c aD b a)
   u_cond ab b a
   repeat (u_c aD b a)
   u_reg b a
   u_op b a
   u_op b a
   u_op b a
   u_conv H.underlying_tPU32 H.room_tU32 (Go.ConcN.Gen.WgLive.cell1 a).choose_spec b a
   refine Goes.stop (λf c=>?_);clear c;refine⟨rfl,_,⟨Wg,1,af⟩,rfl,λw=>stepG_markAt .write (by simp) rfl rfl (by k_ne) rfl H.f_raceWrite (x_raceWrite_n L) (x_raceWrite_b L) (x_raceWrite_x L) (x_raceWrite_f L) (ad:=⟨Wg,1,af⟩) (by simp[Act.eval]),λw a=>⟨60,?_⟩⟩
   walk_nrm
   u_c aC b a
   repeat (u_c aD b a)
   u_reg b a
   u_op b a
   u_c aC b a
   repeat (u_c aD b a)
   u_reg b a
   u_op b a
   u_op b a
   u_op b a
   u_op b a
   u_skip b a
   u_op b a
   u_c aC b a
   repeat (u_c aD b a)
   u_cond ae b a
   u_c stepG_skip b a
   repeat (u_c aD b a)
   u_reg b a
   u_op b a
   u_op b a
   u_op b a
   u_op b a
   refine Goes.stop (λp i=>?_);replace a:=b a i;clear i;refine⟨rfl,rfl,λ⟨st,d⟩=>stepG_semacquire_wait rfl rfl rfl H.f_semacquire (x_semacquire_n L) (x_semacquire_b L) (x_semacquire_x L) (x_semacquire_f L) (by simp[Act.eval,smA]) d.cellSm,λr=>?_⟩;refine⟨_,(stepG_semacquire (n:=1) rfl rfl (by k_ne) rfl H.f_semacquire (x_semacquire_n L) (x_semacquire_b L) (x_semacquire_x L) (x_semacquire_f L) (by simp[Act.eval,smA]) r.cellSm (by k_ne) (r.thaw 1)).trans (by rfl),40,?_⟩;replace a:WgLive L.tWg Wg (p.setCell (smA Wg) (.int .u32 0)):=⟨_,_,r.setSm 0⟩
   clear r
   walk_nrm
   u_c aC b a
   repeat (u_c aD b a)
   u_reg b a
   u_op b a
   u_op b a
   u_op b a
   u_call H.f_uLoad (nm_uLoad L) uLoadFn b a
   repeat (u_c aD b a)
   u_reg b a
   u_op b a
   u_c aC b a
   repeat (u_c aD b a)
   u_reg b a
   u_op b a
   u_op b a
   u_op b a
   refine Goes.stop (λt k=>?_);replace a:=b a k;clear k;refine⟨rfl,λd=>⟨_,stepG_load_atomic (v:=0) rfl rfl (by k_ne) rfl H.f_loadU64 (x_loadU64_n L) (x_loadU64_b L) (x_loadU64_x L) .u64 (x_loadU64_f L) rfl d.cellSt,40,?_⟩⟩;clear d
   walk_nrm
   u_op b a
   u_c aC b a
   u_c stepG_ret' b a
   u_leave1 H.f_uLoad b a
   u_op b a
   u_op b a
   u_c aC b a
   repeat (u_c aD b a)
   u_cond ab b a
   repeat (u_c aD b a)
   u_reg b a
   refine Goes.stop (λf c=>?_);clear c;refine⟨rfl,_,λw=>stepG_mark0 .enable (by simp) rfl rfl (by k_ne) rfl H.f_enable (x_enable_n L) (x_enable_b L) (x_enable_x L) (x_enable_f L),λw a=>⟨20,?_⟩⟩
   walk_nrm
   u_c aC b a
   repeat (u_c aD b a)
   u_reg b a
   u_op b a
   u_conv H.underlying_tWgP H.room_tWg (Go.ConcN.Gen.WgLive.cell0 a).choose_spec b a
   refine Goes.stop (λf c=>?_);clear c;refine⟨rfl,_,λw=>stepG_markAt .acquire (by simp) rfl rfl (by k_ne) rfl H.f_acquire (x_acquire_n L) (x_acquire_b L) (x_acquire_x L) (x_acquire_f L) (by simp[Act.eval,stA]),λw a=>⟨40,?_⟩⟩
   walk_nrm
   u_c aC b a
   repeat (u_c aD b a)
   u_reg b a
   u_op b a
   u_c aC b a
   repeat (u_c aD b a)
   u_cond ae b a
   u_c stepG_skip b a
   u_c stepG_ret' b a
   u_leave0 H.f_wait b a
   grind[Goes.stop]
  .refine⟨_,stepG_cas_miss (v:=(v':Int)*KK) (old:=S) (n:=S+1) rfl rfl (by k_ne) rfl H.f_casU64 (x_casU64_n L) (x_casU64_b L) (x_casU64_x L) .u64 (x_casU64_f L) rfl rfl rfl d.cellSt (d.thaw 0) (by rw[<-l];simp only[KK];omega),30,?_⟩;clear d
   walk_nrm
   u_op b a
   u_c aC b a
   u_c stepG_ret' b a
   u_leave1 H.f_uCas b a
   u_c aC b a
   repeat (u_c aD b a)
   u_cond ae b a
   u_c stepG_skip b a
   u_c stepG_inBlock b a
   u_c stepG_inLoop b a
   exact Goes.stop λ_ _=>⟨_,rfl,by simp,by simp⟩
end
section
open Go.Conc Go.Conc.Lib
open Go.ConcN (WgLive)
open Go.ConcR (KK WgAt stA smA rd wr mk DC0 Payload)
def fJ(ty:aj)(Wg:Nat)(w w1:aA):Prop:=WgLive ty Wg w->WgLive ty Wg w1
def fJ.refl{ty:aj}{Wg:Nat}(w:aA):fJ ty Wg w w:=id
def fJ.trans{ty:aj}{Wg:Nat}{a b c:aA}(h:fJ ty Wg a b)(k:fJ ty Wg b c):fJ ty Wg a c:=λx=>k (h x)
def yG(R:aA->aA->Prop)(Stop:av->aA->Prop)(g:av)(w:aA):Prop:=∀w1,R w w1->Stop g w1
def Goes.all{P:ar}{main:Bool}{R:aA->aA->Prop}{D:aA->aA->Array Event->Prop}{Stop:av->aA->Prop}(hT:∀a b c,R a b->R b c->R a c):
  ∀{n:Nat} {g:av} {w:aA},Goes P main R D Stop n g w->Goes P main R D (yG R Stop) n g w
 |0,g,w,h=>λw1 l w2 p=>h w2 (hT _ _ _ l p)
 |n+1,g,w,h=>by
  rcases h with h|⟨d,h⟩
  .exact .inl λw1 l w2 p=>h w2 (hT _ _ _ l p)
  .refine .inr ⟨d,λw1 l=>?_⟩;have p:=h w1 l;cases j:aH P main g w1 with
   |go g' w' es =>
    rw[j,goes_go]at p;rw[goes_go];exact⟨p.1,Goes.all hT p.2⟩
   |_=>rw[j]at p;exact p.elim
structure Apart(Wg:Nat)(F:St->Prop):Prop where
 rely:∀s s',F s->cv s s'->F s'
 heap:∀s,F s->∃σ,aF σ s
 free:∀s,F s->¬s.own Wg/\(∀L∈s.β,Wg∉L.bs)/\∀o,s.M Wg o=af
section
variable {P:ar}{L:WgLink}{Wg:Nat}{F:St->Prop}
def zf(ty:aj)(Wg:Nat)(F:St->Prop)(s:St):Prop:=F s/\WgLive ty Wg s.w
def Apart.Q0(A:Apart Wg F){s:St}(h:F s):gX s:=(A.heap s h).choose_spec.mem
def Apart.set(A:Apart Wg F){s:St}(h:F s)(a:Addr)(x:a.block=Wg)(v:ah):cv s {s with w:=s.w.setCell a v}:=by
 obtain⟨l,p,y⟩:=A.free s h;have hk:∀b,b≠Wg->(s.w.setCell a v).heap[b]?=s.w.heap[b]?:=λb j=>by have:=(aside_setCell s.w a v).block b (by grind);exact this
 refine⟨rfl,rfl,rfl,Nat.le_of_eq (aside_setCell s.w a v).size.symm,λb j=>hk b ?_,λb o u k=>?_,(aside_setCell s.w a v).os,(aside_setCell s.w a v).tape,(aside_setCell s.w a v).output⟩
 .grind
 .have E:b≠Wg:=by grind
  show(s.w.setCell a v).cell? _=_;rw[j7 (hk b E) o];exact A.Q0 h b o u k
def Apart.next(A:Apart Wg F){ty:aj}{s i:St}(h:zf ty Wg F s)(r:(Cx.lead P ty Wg).rely s i):zf ty Wg F i:=⟨A.rely s i h.1 r.1,r.2 h.2⟩
def Apart.here(A:Apart Wg F){ty:aj}{s:St}(h:zf ty Wg F s):(Cx.lead P ty Wg).rely s s:=⟨cv.w7 (A.Q0 h.1),id⟩
def Apart.goes(A:Apart Wg F){ty:aj}{S:av->St->Prop}{Stop:av->aA->Prop}(k:∀g s,zf ty Wg F s->yG (fJ ty Wg) Stop g s.w->eC (Cx.lead P ty Wg) (Es Wg) S g s){n:Nat}{g:av}{s:St}(d:zf ty Wg F s)(h:Goes P ab (fJ ty Wg) DC0 Stop n g s.w):eC (Cx.lead P ty Wg) (Es Wg) S g s:=by refine eC.goes (X:=Cx.lead P ty Wg) (R:=fJ ty Wg) (D:=DC0) (Stop:=yG (fJ ty Wg) Stop) (zf ty Wg F) (λs i hi f=>A.next hi f) (λs i _ f=>f.2) ?_ (λs hi=>A.here hi) k n g s d (Goes.all (λ_ _ _ l p=>l.trans p) h);rintro s es hi w' ⟨rfl,rfl⟩;exact⟨rfl,.inl (.quiet (A.heap s hi.1).choose_spec)⟩
end
set_option maxRecDepth 100000 in
def EZ{P:ar}{L:WgLink}(H:WgLib P L){Wg:Nat}:Frame.enter P L.add #[.pointer (aa ⟨Wg,0,af⟩),.int .i64 1] .normal=(base L.add).at ⟨#[.pointer (aa ⟨Wg,0,af⟩),.int .i64 1,ai,ai,ai,ai,ai,ai,ai,ai,ai,ai,ai,ai,ai,ai,ai,ai,ai,ai,ai,ai,ai,ai,ai,ai,ai,ai,ai,ai,ai,ai,ai,ai,ai,ai,ai,ai,ai,ai,ai,ai,ai,ai,ai,ai,ai,ai,ai,ai,ai,ai,ai,ai,ai,ai,ai,ai,ai,ai,ai,ai,ai,ai,ai,ai,ai,ai,ai,ai,ai,ai,ai,ai,ai,ai,ai,ai,ai,ai,ai,ai,ai,ai,ai,ai,ai,ai,ai,ai,ai,ai,ai,ai,ai,ai,ai,ai,ai,ai,ai,ai,ai,ai,ai,ai,ai,ai,ai,ai,ai,ai,ai,ai,ai,ai,ai],[]⟩ [.code (Go.ConcR.Gen.body_add L)] :=
 (enter_at (c:=Go.ConcR.Gen.body_add L) _ H.f_add (by kernel_rfl)).trans (by kernel_rfl)
set_option maxRecDepth 100000 in
def CU{P:ar}{L:WgLink}(H:WgLib P L){Wg:Nat}:Frame.enter P L.wait #[.pointer (aa ⟨Wg,0,af⟩)] .normal=(base L.wait).at ⟨#[.pointer (aa ⟨Wg,0,af⟩),ai,ai,ai,ai,ai,ai,ai,ai,ai,ai,ai,ai,ai,ai,ai,ai,ai,ai,ai,ai,ai,ai,ai,ai,ai,ai,ai,ai,ai,ai,ai,ai,ai,ai,ai,ai,ai,ai,ai,ai,ai,ai,ai,ai,ai,ai,ai,ai,ai,ai,ai,ai,ai,ai,ai,ai,ai,ai,ai,ai,ai,ai,ai,ai,ai,ai,ai,ai,ai,ai,ai,ai,ai,ai,ai,ai,ai,ai,ai,ai,ai,ai,ai],[]⟩ [.code (Go.ConcR.Gen.body_wait L)] :=
 (enter_at (c:=Go.ConcR.Gen.body_wait L) _ H.f_wait (by kernel_rfl)).trans (by kernel_rfl)
section
variable [Payload]{P:ar}{L:WgLink}{Y:Lay}{F:St->Prop}{N n:Nat}{val:Nat->Nat->ah}
def Zo(H:WgLib P L)(A:Apart Y.Wg F){j:Nat}{Next:av->St->Prop}{b₀:aU}{a₀:Act}{ops₀:Array au}{i₀:Nat}{rest₀:List Nat}{k₀:List Item}{cs:List aU}(o:∀s,zf L.tWg Y.Wg F s->eC (Cx.lead P L.tWg Y.Wg) (Es Y.Wg) (AtGo P L.tWg Y N val j Next) (G (b₀.at (a₀.put ((ops₀[i₀]?).bind (·.dst)) (.tuple #[])) (.inRegion ops₀ rest₀::k₀)) cs) s){s:St}(d:zf L.tWg Y.Wg F s):
  eC (Cx.lead P L.tWg Y.Wg) (Es Y.Wg) (AtKdS P L.tWg Y N val j Next) (G (Frame.enter P L.add #[.pointer (aa ⟨Y.Wg,0,af⟩),.int .i64 1] .normal) (b₀.at a₀ (.inRegion ops₀ (i₀::rest₀)::k₀)::cs)) s:=by
 have z:∀g s,zf L.tWg Y.Wg F s->Zp P (fJ L.tWg Y.Wg) L Y.Wg (G (b₀.at (a₀.put ((ops₀[i₀]?).bind (·.dst)) (.tuple #[])) (.inRegion ops₀ rest₀::k₀)) cs) g s.w->eC (Cx.lead P L.tWg Y.Wg) (Es Y.Wg) (AtKeS P L.tWg Y N val j Next) g s:=by rintro g s d ⟨l,g',p,y⟩;refine⟨.leaf,l,g',p,λi f=>?_⟩;have a:=A.next d f;obtain⟨m,q⟩:=y i.w a.2;exact A.goes (λg s d h=>by obtain rfl:=h s.w (.refl _);grind) a q
 have k:∀g s,zf L.tWg Y.Wg F s->yG (fJ L.tWg Y.Wg) (GA1 P (fJ L.tWg Y.Wg) L Y.Wg (G (b₀.at (a₀.put ((ops₀[i₀]?).bind (·.dst)) (.tuple #[])) (.inRegion ops₀ rest₀::k₀)) cs)) g s.w->eC (Cx.lead P L.tWg Y.Wg) (Es Y.Wg) (AtA1 P L.tWg Y N val j Next) g s:=by
  rintro g s d h;refine⟨.leaf,(h s.w (.refl _)).1,λi f v I t=>?_⟩;have a:=A.next d f;obtain⟨g',l,m,q⟩:=(h i.w f.2).2 v I t;have b:zf L.tWg Y.Wg F {i with w:=i.w.setCell (stA Y.Wg) (.int .u64 ((v+1)*KK))}:=⟨A.rely _ _ a.1 (A.set a.1 _ rfl _),⟨_,_,t.setSt _⟩⟩;refine⟨g',l,A.goes (λg s d h=>?_) b q⟩
  rcases h s.w (.refl _)with h|h
  .obtain⟨l,g',ad,p,y,h4⟩:=h;refine .step l λi f=>⟨g',i,_,y i.w,.inr ⟨rfl,ad,p,.inl rfl⟩,?_⟩
   have a:=A.next d f;obtain⟨m,q⟩:=h4 i.w a.2;exact A.goes (λg s d h=>z g s d (h s.w (.refl _))) a q
  grind
 have t:=OX (P:=P) (L:=L) H (R:=fJ L.tWg Y.Wg) (Wg:=Y.Wg) (λh r=>r h) (b₀:=b₀) (a₀:=a₀) (ops₀:=ops₀) (i₀:=i₀) (rest₀:=rest₀) (k₀:=k₀) (cs:=cs) s.w d.2;rw[EZ H];refine A.goes (λg s d h=>?_) d t;obtain⟨l,g',p,y⟩:=h s.w (.refl _);refine⟨.leaf,l,g',p,λi f=>?_⟩;have a:=A.next d f;obtain⟨m,q⟩:=y i.w a.2;exact A.goes k a q
section
variable (P L Y F)
def TW(B g:av)(s:St):Prop:=zf L.tWg Y.Wg F s/\∃m,Goes P ab (fJ L.tWg Y.Wg) DC0 (λg _=>g=B) m g s.w
def G3(c:aU)(cs:List aU)(g:av)(s:St):Prop:=zf L.tWg Y.Wg F s/\∃m,Goes P ab (fJ L.tWg Y.Wg) DC0 (λg _=>SM L Y.Wg c cs g) m g s.w
end
variable {b₀:aU}{a₀:Act}{ops₀:Array au}{i₀:Nat}{rest₀:List Nat}{k₀:List Item}{cs:List aU}
omit [Payload]in
def VM(H:WgLib P L)(A:Apart Y.Wg F){T J:av->St->Prop}(O:∀g s,TW P L Y F (G (b₀.at (a₀.put ((ops₀[i₀]?).bind (·.dst)) (.tuple #[])) (.inRegion ops₀ rest₀::k₀)) cs) g s->T g s)(C:∀g s,G3 P L Y F (b₀.at a₀ (.inRegion ops₀ (i₀::rest₀)::k₀)) cs g s->J g s){g:av}{s:St}(h:G3 P L Y F (b₀.at a₀ (.inRegion ops₀ (i₀::rest₀)::k₀)) cs g s):
  eC (Cx.lead P L.tWg Y.Wg) (Es Y.Wg) (AtW1 P L.tWg Y T J) g s:=by
 generalize hc:b₀.at a₀ (.inRegion ops₀ (i₀::rest₀)::k₀)=c at *;generalize Q:G (b₀.at (a₀.put ((ops₀[i₀]?).bind (·.dst)) (.tuple #[])) (.inRegion ops₀ rest₀::k₀)) cs=B at O;have K:∀g s,zf L.tWg Y.Wg F s->yG (fJ L.tWg Y.Wg) (VN P (fJ L.tWg Y.Wg) L Y.Wg B) g s.w->eC (Cx.lead P L.tWg Y.Wg) (Es Y.Wg) (AtAcq P L.tWg Y T) g s:=by intro g s d h;obtain⟨l,g',p,y⟩:=h s.w (.refl _);exact⟨.leaf,l,g',p,λi f=>O _ _ ⟨A.next d f,y i.w (A.next d f).2⟩⟩
 have z:∀g s,zf L.tWg Y.Wg F s->yG (fJ L.tWg Y.Wg) (Zq P (fJ L.tWg Y.Wg) L Y.Wg B) g s.w->eC (Cx.lead P L.tWg Y.Wg) (Es Y.Wg) (AtKe P L.tWg Y T) g s:=by intro g s d h;obtain⟨l,g',p,y⟩:=h s.w (.refl _);refine⟨.leaf,l,g',p,λi f=>?_⟩;obtain⟨m,q⟩:=y i.w (A.next d f).2;exact A.goes K (A.next d f) q
 have V:∀g s,zf L.tWg Y.Wg F s->yG (fJ L.tWg Y.Wg) (HW4 P (fJ L.tWg Y.Wg) L Y.Wg B) g s.w->eC (Cx.lead P L.tWg Y.Wg) (Es Y.Wg) (AtW4 P L.tWg Y T) g s:=by intro g s d h;refine⟨.leaf,(h s.w (.refl _)).1,λi f t=>?_⟩;obtain⟨g',l,m,q⟩:=(h i.w f.2).2 t;exact⟨g',l,A.goes z (A.next d f) q⟩
 have Z:∀g s,zf L.tWg Y.Wg F s->yG (fJ L.tWg Y.Wg) (HW3 P (fJ L.tWg Y.Wg) L Y.Wg B) g s.w->eC (Cx.lead P L.tWg Y.Wg) (Es Y.Wg) (AtW3 P L.tWg Y T) g s:=by intro g s d h;refine⟨.leaf,(h s.w (.refl _)).1,(h s.w (.refl _)).2.1,λi f=>⟨(h i.w f.2).2.2.1,λt=>?_⟩⟩;obtain⟨g',l,m,q⟩:=(h i.w f.2).2.2.2 t;exact⟨g',l,A.goes V (s:={i with w:=i.w.setCell (smA Y.Wg) (.int .u32 0)}) ⟨A.rely _ _ (A.next d f).1 (A.set (A.next d f).1 _ rfl _),⟨_,_,t.setSm 0⟩⟩ q⟩
 have U:∀g s,zf L.tWg Y.Wg F s->yG (fJ L.tWg Y.Wg) (HWr P (fJ L.tWg Y.Wg) L Y.Wg B) g s.w->eC (Cx.lead P L.tWg Y.Wg) (Es Y.Wg) (AtW3 P L.tWg Y T) g s:=by
  intro g s d h;obtain⟨l,g',ad,p,y,h4⟩:=h s.w (.refl _);refine .step l λi f=>⟨g',i,_,y i.w,.inr ⟨rfl,ad,p,.inr rfl⟩,?_⟩
  obtain⟨m,q⟩:=h4 i.w (A.next d f).2;exact A.goes Z (A.next d f) q
 have W:∀(v:Nat) g s,zf L.tWg Y.Wg F s->yG (fJ L.tWg Y.Wg) (HW2 P (fJ L.tWg Y.Wg) L Y.Wg B (SM L Y.Wg c cs) v) g s.w->eC (Cx.lead P L.tWg Y.Wg) (Es Y.Wg) (AtW2 P L.tWg Y T J v) g s:=by
  intro vs g s d h;refine⟨.leaf,(h s.w (.refl _)).1,λi f v I t=>⟨λe=>?_,λe=>?_⟩⟩
  .obtain⟨g',l,m,q⟩:=((h i.w f.2).2 v I t).1 e;exact⟨g',l,A.goes U (s:={i with w:=i.w.setCell (stA Y.Wg) (.int .u64 (v*KK+1))}) ⟨A.rely _ _ (A.next d f).1 (A.set (A.next d f).1 _ rfl _),⟨_,_,t.setSt _⟩⟩ q⟩
  .obtain⟨g',l,m,q⟩:=((h i.w f.2).2 v I t).2 e;exact⟨g',l,C _ _ ⟨A.next d f,m,q⟩⟩
 obtain⟨d,m,q⟩:=h;refine A.goes (λg s d h=>?_) d q;obtain⟨m,t⟩:=E3 (P:=P) (L:=L) H (R:=fJ L.tWg Y.Wg) (Wg:=Y.Wg) (λh r=>r h) (b₀:=b₀) (a₀:=a₀) (ops₀:=ops₀) (i₀:=i₀) (rest₀:=rest₀) (k₀:=k₀) (cs:=cs) g (by rw[hc];exact h s.w (.refl _)) s.w d.2;rw[hc,Q]at t;refine A.goes (λg s d h=>?_) d t;refine⟨.leaf,(h s.w (.refl _)).1,λi f v I t=>?_⟩;obtain⟨g',l,p,y⟩:=(h i.w f.2).2 v I t;refine⟨g',l,λh0=>?_,λE=>?_⟩
 .obtain⟨m,q⟩:=p h0;exact A.goes z (A.next d f) q
 .obtain⟨m,q⟩:=y E;exact A.goes (W v) (A.next d f) q
omit [Payload]in
def VO(H:WgLib P L)(A:Apart Y.Wg F){c:aU}{J:av->St->Prop}(C:∀g s,G3 P L Y F c cs g s->J g s){s:St}(d:zf L.tWg Y.Wg F s):
  eC (Cx.lead P L.tWg Y.Wg) (Es Y.Wg) (AtKd P L.tWg Y J) (G (Frame.enter P L.wait #[.pointer (aa ⟨Y.Wg,0,af⟩)] .normal) (c::cs)) s:=by have t:=E4 (P:=P) (L:=L) H (R:=fJ L.tWg Y.Wg) (Wg:=Y.Wg) (λh r=>r h) (c:=c) (cs:=cs) s.w d.2;rw[CU H];refine A.goes (λg s d h=>?_) d t;obtain⟨l,g',p,y⟩:=h s.w (.refl _);exact⟨.leaf,l,g',p,λi f=>C _ _ ⟨A.next d f,y i.w (A.next d f).2⟩⟩
end
end
section
open Go.Conc Go.RowKit Go.Conc.Lib Go.ConcR.Gen
open Go.ConcN (WgLive Has RW DWs AtR0 EvW)
open Go.ConcN.Gen
open Go.ConcR (KK WgAt stA smA rd wr mk DC0 Payload)
section
variable {P:ar}{R:aA->aA->Prop}{D:aA->aA->Array Event->Prop}{Stop A:av->aA->Prop}
def Goes.never(b:∀w,R w w)(f:∀g w,Stop g w->∃g' e,aH P ae g w=.go g' w #[e])(d:∀n g w,A g w->¬Goes P ae R D Stop n g w):
  ∀(m n:Nat) (g:av) (w:aA),Goes P ae R DC0 A m g w->¬Goes P ae R D Stop n g w
 |0,n,g,w,h,k=>d n g w (h w (b w)) k
 |m+1,n,g,w,h,k=>by
  rcases h with h|⟨_,h⟩
  .grind
  .have h1:=h w (b w);cases a:aH P ae g w with
   |go g' w' es =>
    rw[a,goes_go]at h1;obtain⟨⟨rfl,rfl⟩,h2⟩:=h1;have no:¬Stop g w':=λi=>by grind
    cases n with
    |zero=>exact no (k w' (b w'))
    |succ n =>
     rcases k with k|⟨_,k⟩
     .grind
     .have k1:=k w' (b w');rw[a,goes_go]at k1;exact Goes.never b f d m n g' w' h2 k1.2
   |_=>rw[a]at h1;exact h1.elim
def Goes.meet(b:∀w,R w w)(i:∀g w,Stop g w->∃g' e,aH P ae g w=.go g' w #[e])(d:∀n g w,A g w->Goes P ae R D Stop n g w->∀w1,R w w1->Stop g w1):
  ∀(m n:Nat) (g:av) (w:aA),Goes P ae R DC0 A m g w->Goes P ae R D Stop n g w->Goes P ae R DC0 Stop m g w
 |0,n,g,w,h,k=>d n g w (h w (b w)) k
 |m+1,n,g,w,h,k=>by
  rcases h with h|⟨f,h⟩
  .exact .inl (d n g w (h w (b w)) k)
  .refine .inr ⟨f,λw1 hr=>?_⟩;have h1:=h w1 hr;cases a:aH P ae g w1 with
   |go g' w' es =>
    rw[a,goes_go]at h1;rw[goes_go];obtain⟨⟨rfl,rfl⟩,h2⟩:=h1;have no:¬Stop g w':=λf=>by grind
    refine⟨⟨rfl,rfl⟩,?_⟩;cases n with
    |zero=>exact absurd (k w' hr) no
    |succ n =>
     rcases k with k|⟨_,k⟩
     .grind
     .have k1:=k w' hr;rw[a,goes_go]at k1;exact Goes.meet b i d m n g' w' h2 k1.2
   |_=>rw[a]at h1;exact h1.elim
end
variable [Payload]{L:WgLink}{P:ar}{Wg C n Low x:Nat}{val:ah}{c:aU}{cs:List aU}
def StK(P:ar)(g:av)(_:aA):Prop:=∃a,∀w,aH P ae g w=.go a w #[mk .disable]
def StR(P:ar)(L:WgLink)(Wg C n Low x:Nat)(val:ah)(g:av)(w:aA):Prop :=
 (WgLive L.tWg Wg w/\Has C (x-1) val w)/\∃a,(∀w,aH P ae g w=.go a w #[mk (.releaseMerge (stA Wg))])/\∀w,WgLive L.tWg Wg w/\Has C (x-1) val w->∃m,Goes P ae (RW L.tWg Wg C n Low (x-1)) DC0 (StK P) m a w
set_option maxRecDepth 100000 in
def NA(H:WgLib P L)(w:aA)(a:WgLive L.tWg Wg w/\Has C (x-1) val w):
  Goes P ae (RW L.tWg Wg C n Low (x-1)) DC0 (StR P L Wg C n Low x val) 23 (G ((baseD L.done).at ⟨#[.pointer (aa ⟨Wg,0,af⟩),ai,ai,ai],[]⟩ [.code (body_done L)]) (c::cs)) w:=by
 lib_facts
 simp only[body_done,body_add,doneFn,addFn,ij]
 u_reg kn_rely a
 u_op kn_rely a
 u_in kn_rely a
 refine goes_call rfl rfl (by k_ne) rfl H.f_add (nm_add L) rfl ⟨by u_nil,?_⟩
 walk_nrmf addFn
 repeat (u_c aD kn_rely a)
 u_cond ab kn_rely a
 repeat (u_c aD kn_rely a)
 u_reg kn_rely a
 u_op kn_rely a
 u_op kn_rely a
 u_c aC kn_rely a
 repeat (u_c aD kn_rely a)
 u_cond ab kn_rely a
 u_reg kn_rely a
 u_op kn_rely a
 u_conv H.underlying_tWgP H.room_tWg (Go.ConcN.Gen.WgLive.cell0 a.1).choose_spec kn_rely a
 refine Goes.stop (λd b=>?_);replace a:=kn_rely a b;clear b;refine⟨a,_,λw=>stepG_markAt .releaseMerge (by simp) rfl rfl (by k_ne) rfl H.f_relMerge (x_relMerge_n L) (x_relMerge_b L) (x_relMerge_x L) (x_relMerge_f L) (by simp[Act.eval,stA]),λw a=>⟨10,?_⟩⟩
 walk_nrm
 u_c aC kn_rely a
 repeat (u_c aD kn_rely a)
 u_reg kn_rely a
 exact Goes.stop λd b=>⟨_,λw=>stepG_mark0 .disable (by simp) rfl rfl (by k_ne) rfl H.f_disable (x_disable_n L) (x_disable_b L) (x_disable_x L) (x_disable_f L)⟩
def V1(H:WgLib P L){q:Nat}(f:c.mode=.returning)(hT:QuitsD P q 0 (G c cs))(w:aA)(d:WgLive L.tWg Wg w/\Has C (x-1) val w):
  Goes P ae (RW L.tWg Wg C n Low (x-1)) DC0 (AtR0 P L.tWg Wg C n Low x val) 23 (G ((baseD L.done).at ⟨#[.pointer (aa ⟨Wg,0,af⟩),ai,ai,ai],[]⟩ [.code (body_done L)]) (c::cs)) w:=by
 have r:=doneN (Own:=λ_ _=>False) (Rd:=λ_ _=>False) (Low:=Low) (n:=n) H f hT w d;have o:∀g w,AtR0 P L.tWg Wg C n Low x val g w->∃g' e,aH P ae g w=.go g' w #[e]:=λg w h=>by obtain⟨_,_,g',z,_⟩:=h;grind
 have v:(mk (.releaseMerge (stA Wg)):Event)≠mk .disable:=by simp[mk]
 refine Goes.meet (λw=>.refl w) o ?_ _ _ _ _ (NA H w d) r;intro l g w h k w1 hr;obtain⟨d,t,z,u⟩:=h;have a:AtR0 P L.tWg Wg C n Low x val g w1∨∃i,Goes P ae (RW L.tWg Wg C n Low (x-1)) (DWs Wg (λ_ _=>False) (λ_ _=>False) C n x) (AtR0 P L.tWg Wg C n Low x val) i t w1:=by
  cases l with
  |zero=>exact .inl (k w1 hr)
  |succ l =>
   rcases k with k|⟨_,k⟩
   .grind
   grind[goes_go]
 rcases a with h|⟨i,h⟩
 .exact h
 .exfalso;obtain⟨m,s⟩:=u w1 (kn_rely d hr);refine Goes.never (λw=>.refl w) o ?_ _ _ _ _ s h;rintro j B w4 ⟨F,y⟩ k;have b:∀w,¬AtR0 P L.tWg Wg C n Low x val B w:=λw p=>by obtain⟨_,_,E,I,_⟩:=p;grind
  cases j with
  |zero=>exact b w4 (k w4 (.refl w4))
  |succ j =>
   rcases k with k|⟨_,k⟩
   .exact b w4 (k w4 (.refl w4))
   .have k1:=k w4 (.refl w4);rw[y w4,goes_go]at k1;have:=(k1.1.2 _ (Array.mem_singleton.2 rfl)).2.1;exact this rfl
end
section
open Go.RowKit
open Go.Conc (G solo crowd AtRel Past EvL Leavers)
def St.top(w:aA):St:={β:=[],M:=λb o=>w.cell? ⟨b,o,af⟩,w:=w,own:=λb=>b<w.heap.size}
def aF.top(w:aA):aF [] (St.top w):=⟨λ_ _ _ h=>h,rfl,by simp,by simp[St.top],by simp[St.top],λb a=>⟨a,by simp[St.top]⟩⟩
def SJ{P:ar}{f:aJ}{a:aU}{v:ah}{s:St}(h:vh P f a v s)(hi:P.inits.idxOf? f=af)(w:aA)(j:∀b o u,s.M b o=aa u->w.cell? ⟨b,o,af⟩=aa u):∃es,aH P ab (G a []) w=.ended (.done v) w es/\∀e∈es,∃b o u,e=⟨.cell ⟨b,o,af⟩,ae,ae⟩/\s.M b o=aa u:=by
 obtain⟨fn,g,c⟩:=h.fn;obtain⟨i,k⟩:=c w j;refine⟨seen P a.fn ((results fn a.tmps).events P w #[]),?_,λe l=>k e (Go.Conc.mem_seen l)⟩;have d:P.inits.idxOf? a.fn=af:=by rw[h.isF];exact hi
 simp[G,aH,unwind,doReturn,h.mode,h.defers,h.kind,g,i,d,GStep.after]
abbrev Gl:=Nat×aj×ah
abbrev OW(gs:List Gl):List aR:=gs.map λx=>.cm (dX x.1 x.2.1 x.2.2)
def St.vn(gs:List Gl)(w:aA):St:={β:=gs.map λx=>⟨.pointer (aa ⟨x.1,0,af⟩),[x.1]⟩,M:=λb o=>if b∈gs.map (·.1)then af else w.cell? ⟨b,o,af⟩,w:=w,own:=λb=>b<w.heap.size/\b∉gs.map (·.1)}
def aF.vn{gs:List Gl}{w:aA}(p:(gs.map (·.1)).Nodup)(m:∀x∈gs,w.heap[x.1]?=aa (.cells #[x.2.2] x.2.1 (0,0))):aF (OW gs) (St.vn gs w):=by
 have k:∀x∈gs,x.1<w.heap.size:=λx i=>(iA.1 (m x i)).1;have f:∀(l:Nat) (L:Loc),(St.vn gs w).β[l]?=aa L->∃x,gs[l]?=aa x/\L=⟨.pointer (aa ⟨x.1,0,af⟩),[x.1]⟩:=λl L h=>by simp only[St.vn,nk,rz]at h;grind
 refine⟨λb o v g=>?_,by simp[St.vn],λl B L hB hl=>?_,λl l' L L' h1 h2 b a d=>?_,λL h b a=>?_,λb a=>⟨a.1,λL h c=>?_⟩⟩
 .simp only[St.vn]at g;split at g
  .cases g
  .exact g
 .obtain⟨x,h1,rfl⟩:=f l L hl;simp only[OW,nk,h1,lS,dw]at hB;subst hB;have i:=bP h1;refine⟨λb=>if b=x.1 then aa (.cells #[x.2.2] x.2.1 (0,0))else af,⟨rfl,bl rfl,λb a=>aY a⟩,λb o a=>?_,λb=>?_,λb a o=>?_⟩
  .simp only at a;split at a
   .rename_i e;cases a;rw[e];exact m x i
   grind
  .by_cases e:b=x.1<;>simp[e]
  .rw[fN]at a;subst a;exact bl (gH.2 ⟨x,i,rfl⟩)
 .obtain⟨x,j,rfl⟩:=f l L h1;obtain⟨y,n,rfl⟩:=f l' L' h2;rw[fN]at a d;have e:x.1=y.1:=a.symm.trans d;have a1:(gs.map (·.1))[l]?=aa x.1:=by grind
  have a2:(gs.map (·.1))[l']?=aa x.1:=by grind
  grind[List.getElem?_inj]
 .obtain⟨l,hl⟩:=z0 h;obtain⟨x,j,rfl⟩:=f l L hl;rw[fN]at a;subst a;exact k x (bP j)
 .obtain⟨l,hl⟩:=z0 h;obtain⟨x,j,rfl⟩:=f l L hl;rw[fN]at c;subst c;exact a.2 (gH.2 ⟨x,bP j,rfl⟩)
def aF.Zm{gs:List Gl}{s:St}(h:aF (OW gs) s){x:Gl}(b:x∈gs):s.w.heap[x.1]?=aa (.cells #[x.2.2] x.2.1 (0,0)):=by
 obtain⟨l,hl⟩:=z0 b;have hB:(OW gs)[l]?=aa (.cm (dX x.1 x.2.1 x.2.2)):=by grind
 have a:l<s.β.length:=by rw[h.len];grind
 obtain⟨ch,⟨_,h2,_⟩,c,_⟩:=h.box l _ _ hB (br a);grind
def ef.VL{P:ar}{ι:Type}{f:aJ}{args:List D}{res:ι->D}{gs:List Gl}(h:ef (Cx.beside P) f args (OW gs) res (λ_=>OW gs))(hi:P.inits.idxOf? f=af){w:aA}(O:(gs.map (·.1)).Nodup)(y:∀x∈gs,w.heap[x.1]?=aa (.cells #[x.2.2] x.2.1 (0,0))){vs:List ah}(z:cp (OW gs) (St.vn gs w) vs args){Post:ah->aA->Prop}(F:∀i v s',dt (OW gs) s' v (res i)->Below w.heap.size w s'.w->∀d,Post v (s'.w.at d)):
  ∃M last o w' t',runNT P (M+1) (solo (G (Frame.enter P f vs.toArray .normal) []) w) #[]=(.ended o w',t')/\runN P M (solo (G (Frame.enter P f vs.toArray .normal) []) w)=.next last /\
   step P last=.ended o w'/\Go.Conc.Good P Post last o w' t':=by
 have m:=aF.vn O y;have key:=h.2 (St.vn gs w) vs z m (λg s'=>∃i v fr,g=G fr []/\vh P f fr v s'/\dt (OW gs) s' v (res i)/\Below w.heap.size w s'.w) []
  (λi fr v s' h1 h2 h3 h4=>.stop ⟨i,v,fr,rfl,h1,h2,⟨h4.os,h4.tape,h4.output,h4.size,λk hk=>by
   by_cases e:k∈gs.map (·.1)
   .obtain⟨x,t,rfl⟩:=gH.1 e;rw[h3.Zm t,y x t]
   .exact h4.fy k ⟨hk,e⟩⟩⟩)
 have T:AM.mc (λ_=>False)=λ_=>False:=by funext l;cases l<;>rfl
 obtain⟨N,q,r,g',s',c,t',V,h1,h2,h3,h4,S,R,W,⟨i,v,fr,rfl,k1,A,K⟩⟩:=key.beside (λ_=>False) #[G (Frame.enter P f vs.toArray .normal) []] af #[] (λ_=>0) m.mem rfl (Go.Conc.leavers_one P _)
  (by rw[T];exact Go.Conc.past_nil.mono (kD _)) ⟨λ_ h=>h.elim,λ_ h=>h.elim,λ_ h=>h.elim,λ_ h=>h.elim⟩ (λa=>by intro i hi;simp[Trace.act?]at hi)
 have j:=Go.Conc.beside_ends (P:=P) (Shun:=AM.mc q) (B:=s'.w.heap.size) (D:=λ_ _ _=>False) (Post:=Post) (λ_ _ _ h=>h.elim) (sl:=c) (n:=0) h3 h4 S (Go.Conc.Goes.stop λw1 RN=>by
  obtain⟨d,rfl⟩:=RN;obtain⟨es,e1,e2⟩:=SJ k1 hi (s'.w.at d) (λb o u s=>h2 b o u s);refine⟨rfl,v,es,e1,λe Q=>?_,F i v s' A K d⟩;obtain⟨b,o,u,rfl,s⟩:=e2 e Q;refine Go.Conc.evL_cell _ _ (λE=>?_) (gX.lt h2 s);have:=R.M b E o
  grind)
 obtain⟨p,last,o,w',J,H,U,I,L⟩:=j;refine⟨N+p,last,o,w',J,?_,?_,I,L⟩
 .rw[show N+p+1=N+(p+1) by omega];exact(runNT_add N (p+1) h1).trans H
 .have e:=runNT_fst P N (crowd #[G (Frame.enter P f vs.toArray .normal) []] w af) #[];have C:(runNT P N (crowd #[G (Frame.enter P f vs.toArray .normal) []] w af) #[]).1=.next (crowd r s'.w c):=by have:runNT P N (crowd #[G (Frame.enter P f vs.toArray .normal) []] w af) #[]=_:=h1;grind
  grind[Go.Conc.solo_eq_crowd,runN_add]
def Rd.vn{gs:List Gl}{w:aA}(q:∀x∈gs,w.heap[x.1]?=aa (.cells #[x.2.2] x.2.1 (0,0)))(hi:∀x∈gs,∃T u,x.2.2=.iface T u){v:ah}{t:Bool}{k n:Nat}{es:Nat->List C}(g:∀(i j:Nat)(c:C),(es i)[j]?=aa c->∃kd m,c=C.int kd m)(h:Rd (St.top w).M v (.sl t k n es)):Rd (St.vn gs w).M v (.sl ae k n es):=by
 obtain⟨a,cap,b,off,rfl,h1,h2,r,p,o⟩:=h.EW;refine .SA h1 h2 r p λi f j c hj=>?_;obtain⟨u,d,q2⟩:=o i f j c hj;obtain⟨kd,m,rfl⟩:=g i j c hj;cases q2 with
 |int hr =>
  refine⟨_,?_,.int hr⟩;have d:w.cell? ⟨b,off+i*k+j,af⟩=aa (.int kd m):=d;show(if b∈gs.map (·.1)then af else w.cell? _)=_;rw[aY,d];intro s;obtain⟨x,l,rfl⟩:=gH.1 s;obtain⟨T,u,e⟩:=hi x l;simp only[aV,q x l,e]at d;grind
end
section
open Go.ChangeShapes Go.WideShapes Go.ChangeAt Go.RowKit
def Bi{H:Type}{enc:aj×ah->H}{a:Assume}{C:Checked}{os:Os}{f:aJ}{fn:Func}{s:ChangeSpec}{d:List PathCond}{apart fresh handsOn again:Bool}{X:aA->Array ah->Prop}(A:∀(w w':aA) (args:Array ah),w.heap=w'.heap->X w args->X w' args)(own:ownKnob C.prog.godebug=af)(g:os.Started)(q:C.prog.funcs[f]?=aa fn)(h:∃(w:aA) (b:Tape) (i:Input),w.os=os/\(w.forCall b i).Shaped C.prog/\i.vars=[]/\Input.okWide C.prog (w.forCall b i) .any w.heap.size f i /\
   ((s.pre enc C.prog fn d apart (w.forCall b i).memory i.args/\X (w.forCall b i).memory i.args)/\sizedMet enc C.prog fn (OpenSpec.ofChange s) apart (w.forCall b i).memory i.args)/\a.holds C.prog (lone (Frame.enter C.prog f i.args .normal) [] (w.forCall b i)))(n:∀(W:aA) (base:Nat) (args:Array ah) (ds gs:List (DataW H)) (c:List MemPlace),
   (∀(j:Nat) t v,fn.params[j]?=aa t->args[j]?=aa v->Value.okWide C.prog W .any base t v) ->
   DataW.Whole enc C.prog fn.params.toList s.vars apart W args.toList ds gs c->W.ShapedOpen C.prog->X W args ->
   ∃M last o w' t',runNT C.prog (M+1) (Conc.solo (Conc.G (Frame.enter C.prog f args .normal) []) W) #[]=(.ended o w',t')/\runN C.prog M (Conc.solo (Conc.G (Frame.enter C.prog f args .normal) []) W)=.next last /\
    step C.prog last=.ended o w'/\Conc.Good C.prog (λv B=>s.post enc C.prog fn apart fresh handsOn again W args v B) last o w' t'):
  ReturnsInLeavingWide a C os f .any (λw args=>(s.pre enc C.prog fn d apart w args/\X w args)/\sizedMet enc C.prog fn (OpenSpec.ofChange s) apart w args) (s.post enc C.prog fn apart fresh handsOn again):=by refine returnsInLeavingWide_of_good own g h ?_;intro w b i _ u _ y m p;obtain⟨_,_,_,r,k,_,_,_,_,l⟩:=y;have e:r=fn:=sr (k.symm.trans q);subst e;obtain⟨⟨⟨ds,gs,c,K,L⟩,D⟩,N⟩:=m;have x:=DataW.Whole.of_heap (w':=w.forCall b i) (by rfl) K;obtain⟨M,last,o,w',t',I,F,E,J⟩:=n (w.forCall b i) w.heap.size i.args ds gs c l x u (A (w.forCall b i).memory (w.forCall b i) i.args rfl D);exact⟨M,last,o,w',t',I,F,E,J.mono λv z=>ChangeSpec.post_blind z⟩
def IJ(k:Looks){p:Pinned}{s:OpenSpec}{c:OpenClaim}(m:List (List PathCond))(kinds:List LaidKind)(a:Bool)(b:Bool×String)(lk:Bool)(y:c.holds p s)(l:∀D∈m,(c.withDomain D).holds p s)(w:c.wfByText s=ab)(g:∀D∈m,(c.withDomain D).wfByText s=ab)(e:c.laidByTextAt k p kinds a)(d:c.start=.entering)(i:c.noBlocks=ae/\c.again=ae)(u:p.checked.prog.mainIs=aa (b.1,b.2.toList))(x:(!b.1&&b.2.isEmpty&&!lk)=ae)(q:∀f fn,p.checked.prog.funcNamed c.func=aa f->p.checked.prog.funcs[f]?=aa fn->lk=p.checked.prog.looks []/\∀(j:Nat) t,fn.params[j]?=aa t->p.checked.prog.wantsStandIn t=ae)(v:ab=c.goesBy p.checked.prog):
  Claim7.holds p (.plain s) {stood:={row:=c,standIns:=[],harness:=b,looks:=lk},kinds:=[],alts:=m,goes:=ab,laidByText:=ab,laidKinds:=kinds,laidTests:=a,laidLooks:=k}:=by
 have o:∀r:OpenClaim,Claim7.isSixth {stood:={row:=r,standIns:=[],harness:=b,looks:=lk},kinds:=[]}=ae:=λr=>by simpa[Claim7.isSixth]using x
 refine⟨Claim7.tied_new_at k kinds a (Claim7.new_of_sixth y b lk d i u (o c) q) w,λD n=>?_,e,(λh=>by cases h),v⟩;exact Claim7.tied_new_at k kinds a (Claim7.new_of_sixth (l D n) b lk d i u (o _) q) (g D n)
end
end Go.AM
namespace Go.AM.R1
section
variable {X:Cx ag}
def Z2:dv:=λargs σ=>match args,σ with
 |[.e (.one (.c (.str b)))],[]=>aa (dB (dM b),[],[])
 |_,_=>af
def t37:er X 37 Z2:=by intro args σ res σ' obs h _;unfold Z2 at h;grind[I3]
def X1:dv:=λargs σ=>match args,σ with
 |[.e (.one (.c (.str b)))],[]=>aa (dB (et b),[],[])
 |_,_=>af
def t38:er X 38 X1:=by intro args σ res σ' obs h _;unfold X1 at h;grind[I4]
def Z3:dv:=λargs σ=>match args,σ with
 |[.e (.one (.c (.str a))),.e (.one (.c (.str b)))],[]=>aa (dB (clash a b),[],[a≠[],b≠[]])
 |_,_=>af
def t39:er X 39 Z3:=by
 intro args σ res σ' obs h a;unfold Z3 at h;split at h
 .cases h;exact Ms _ _ a.1 a.2
 grind
def ct2:List (Nat×dv):=(37,Z2)::(38,X1)::(39,Z3)::ct1
def uC:bL X ct2:=bL.cons t37 (bL.cons t38 (bL.cons t39 DD))
def fE(t:List bw)(i:Nat):Bs:=(t.getD i ([],[])).1
def tK(t:List bw)(i:Nat):Bs:=(t.getD i ([],[])).2
def gT(t:List bw)(i:Nat):(t.getD i cF.cd).1=fE t i:=rfl
def pZ(t:List bw)(i:Nat):(t.getD i cF.cd).2=tK t i:=rfl
def gQ(t:List bw)(i:Nat):Bool:=dM (fE t i)&&et (tK t i)&&(i==0||bm (fE t (i-1)) (fE t i))&&(bh i).all λj=>!clash (fE t j) (fE t i)
def cC(t:List bw):Bool:=(bh t.length).all (gQ t)&&decide (t.length<=6)
def dE{n:Nat}{p:Nat->Bool}:(bh n).all p=ab↔∀i,i<n->p i=ab:=by grind
def qS{s:Bs}(h:dM s=ab):s≠[]:=by rintro rfl;simp[dM]at h
def l0{t:List bw}{i:Nat}(hi:i<t.length)(h:gQ t i=ae):cC t=ae:=by
 cases a:cC t with
 |false=>rfl
 |true =>
  simp only[cC,bR]at a;grind
def zp(t:List bw):Ev X 10 [cF.sl t] [] (dB (cC t)) []:=by
 refine Ev.bQ Tryz.func10 rfl λs=>?_;have o:=s.sl 0 rfl;refine b8 uC rfl ay ?_;refine AK.xe (λi=>i<=t.length/\∀j,j<i->gQ t j=ab) (λi:Nat=>[(0,cF.sl t),(3,dI i)]) (λ_=>[]) (λi=>t.length-i) 0 rfl (by simp[cA]) ⟨by omega,by omega⟩ rfl ?_;rintro i ⟨hi,k⟩;by_cases h:i<t.length
 .by_cases b:dM (fE t i)=ab
  .by_cases f:et (tK t i)=ab
   .by_cases n:i=0∨bm (fE t (i-1)) (fE t i)=ab
    .apply AK.join [(0,cF.sl t),(3,dI i),(4,dI 0)] []
     .intro hk;by_cases d:i=0
      .refine aW uC [(8,ab),(16,ab),(24,ab),(29,ae)] rfl ?_ (hk _ _ rfl ?_)
       .simp[-ak,h,gT,pZ,b,f];omega
       .simp[cA]
      .have g:=n.resolve_left d;have c:bD .i64 ((i:Int)-1):=by simp only[bD];omega
       have m:((i:Int)-1).toNat=i-1:=by omega
       refine aW uC [(8,ab),(16,ab),(24,ab),(29,ab),(42,ae)] rfl ?_ (hk _ _ rfl ?_)
       .simp[-ak,h,gT,pZ,b,f,g,c,m];omega
       .simp[cA]
     ·
      have q:gQ t i=(bh i).all (λj=>!clash (fE t j) (fE t i)):=by
       rcases n with rfl|g
       .simp[gQ,b,f]
       .simp[gQ,b,f,g]
      refine AK.xe (λj=>j<=i/\∀p,p<j->clash (fE t p) (fE t i)=ae) (λj:Nat=>[(0,cF.sl t),(3,dI i),(4,dI j)]) (λ_=>[]) (λj=>i-j) 0 rfl (by simp[cA]) ⟨by omega,by omega⟩ rfl ?_;rintro j ⟨v,u⟩;by_cases a:j<i
      .have l:dM (fE t j)=ab:=by have:=k j a;simp only[gQ,bR]at this;exact this.1.1.1
       cases r:clash (fE t j) (fE t i)with
       |true =>
        refine aW uC [(47,ab),(60,ab)] rfl ?_ (AK.ir (AK.sZ (cw.zero rfl ?_)))
        .simp[-ak,h,a,gT,r,qS b,qS l];omega
        .have:gQ t i=ae:=by grind
         simp[l0 h this]
       |false =>
        refine aW uC [(47,ab),(60,ae)] rfl ?_ (AK.again (j+1) rfl ?_ ?_ ?_ rfl)
        .simp[-ak,h,a,gT,r,qS b,qS l,bD];omega
        .simp[cA]
        .grind
        .omega
      .have a:j=i:=by omega
       subst a;refine aW uC [(47,ae)] rfl (by simp) (AK.leave rfl rfl ?_);refine b8 uC rfl ?_ (AK.again (j+1) rfl ?_ ?_ ?_ rfl)
       .simp[bD];omega
       .simp[cA]
       .grind
       .omega
    .have d:i≠0:=λe=>n (.inl e);have g:bm (fE t (i-1)) (fE t i)=ae:=by grind
     have c:bD .i64 ((i:Int)-1):=by simp only[bD];omega
     have m:((i:Int)-1).toNat=i-1:=by omega
     refine aW uC [(8,ab),(16,ab),(24,ab),(29,ab),(42,ab)] rfl ?_ (AK.ir (cw.zero rfl ?_))
     .simp[-ak,h,gT,pZ,b,f,g,c,m];omega
     .simp[az,l0 h (by simp[gQ,d,g])]
   .refine aW uC [(8,ab),(16,ab),(24,ae)] rfl ?_ (AK.ir (cw.zero rfl ?_))
    .simp[-ak,h,gT,pZ,b,f]
    .simp[az,l0 h (by simp[gQ,f])]
  .refine aW uC [(8,ab),(16,ae)] rfl ?_ (AK.ir (cw.zero rfl ?_))
   .simp[-ak,h,gT,b]
   .simp[az,l0 h (by simp[gQ,b])]
 .refine aW uC [(8,ae)] rfl (by simp;omega) (AK.leave rfl rfl ?_);refine b8 uC rfl ay (AK.bz rfl ?_);simp only[az,cC];grind
end
def dl(s:Bs)(i:Nat):Int:=(cT s i-97) % 256
def jM(t:Bs)(e:Nat):Bool:=(dl t (e-1)+2*dl t (e-2)+3*dl t (e-3)) % 5==0
def uj(t:Bs)(f:Nat):Nat->Nat
 |0=>min (f+8) t.length
 |k+1=>if t.length<=f+(7-k)then t.length else if jM t (f+(7-k))then f+(7-k)else uj t f k
def cutAt(t:Bs)(f:Nat):Nat:=uj t f 5
def Hr(t:Bs)(f:Nat)(a:f<t.length):∀k,k<=5->f<uj t f k/\uj t f k<=t.length/\uj t f k<=f+8
 |0,_=>by simp only[uj];omega
 |k+1,hk=>by
  simp only[uj];split
  .omega
  .split
   .omega
   .exact Hr t f a k (by omega)
theorem mv(t:Bs)(f:Nat)(a:f<t.length):f<cutAt t f/\cutAt t f<=t.length/\cutAt t f<=f+8:=Hr t f a 5 (by omega)
def m8(t:Bs):Nat->Nat->List Nat
 |0,_=>[]
 |k+1,f=>if f<t.length then cutAt t f::m8 t k (cutAt t f)else[]
def Be(t:Bs):List Nat:=m8 t t.length 0
def eT(t:Bs):Nat->Nat->List Bs
 |0,_=>[]
 |k+1,f=>if f<t.length then(t.drop f).take (cutAt t f-f)::eT t k (cutAt t f)else[]
def pieces(t:Bs):List Bs:=eT t t.length 0
def fT(l:List Bs):Option Bs:=if et l.flatten&&(pieces l.flatten==l)then aa l.flatten else af
def bx(p:Bs):Bool:=decide (1<=p.length)&&decide (p.length<=8)&&cj p
def codeOf(p:Bs):Int:=p.foldl (λn b=>27*n+((b.toNat:Int)-97) % 256+1) 0
def b7(k:Int):Bool:=decide (1<=k)&&decide (k<=99)
def dA(k:Int)(p:Bs):Int:=(codeOf p*(2*k+1)+k*7919) % 999999999989
def cO(n:Nat):Nat:=if n<1∨8<n then 0 else if n<=2 then 2 else if n<=4 then 4 else 8
def eY(p:Bs):Bs:=if bx p then p++List.replicate (cO p.length-p.length) 46 else[]
def strip(b:Bs):Bs:=(b.reverse.dropWhile (·==46)).reverse
def eH(b:Bs):Option Bs:=if bx (strip b)&&(eY (strip b)==b)then aa (strip b)else af
abbrev bo:=Int×Bs
abbrev bJ:=Int×List bo
def right(k:Int)(x:bo):Bool:=match eH x.2 with|some p=>dA k p==x.1|none=>ae
def A5(l:List Int):Bool:=(bh l.length).all λi=>i==0||decide (l.getD (i-1) 0<l.getD i 0)
def gx(k:Int)(p:bJ):Bool :=
 decide (1<=p.1)&&decide (p.1<=99)&&b7 k&&decide (1<=p.2.length)&&decide (p.2.length<=4)&&p.2.all (right k)&&A5 (p.2.map (·.1))
def chunk(k:Int)(x:bo):Option Bs:=match eH x.2 with|some p=>if b7 k&&(dA k p==x.1)then aa p else af|none=>af
def dY(k:Int)(p:bJ)(n:Int):Option Bs:=match p.2.find? (λx=>x.1==n)with|some x=>chunk k x|none=>af
def gC(l:List bo)(x:bo):List bo:=match l with
 |[]=>[x]
 |y::r=>if x.1<y.1 then x::y::r else y::gC r x
def gj(no k:Int)(ps:List Bs):bJ:=(no,ps.foldl (λl p=>gC l (dA k p,eY p)) [])
abbrev cn:=Int×Int
def eu(s:cn):Bool:=decide (0<=s.1)&&decide (s.1<999999999989)&&decide (1<=s.2)&&decide (s.2<=99)
def fS(l:List cn)(s:cn):List cn:=match l with
 |[]=>[s]
 |y::r=>if y.1<s.1 then y::fS r s else s::(y::r).filter (λz=>!(z.1==s.1))
def kl(l:List cn)(n:Int):Int:=match l.find? (λs=>s.1==n)with|some s=>s.2|none=>0
def cV(l:List bJ):List cn:=l.flatMap λp=>p.2.map λx=>(x.1,p.1)
def indexOf(l:List bJ):List cn:=if(cV l).all eu then(cV l).foldl fS []else[]
abbrev js:=Bs×List Int
abbrev fe:=Int×List js
def lx(k:Int)(f:bw):js:=(f.1,(pieces f.2).map (dA k))
def eJ(no k:Int)(t:List bw):fe:=(no,t.map (lx k))
def im(k:Int)(l:List cn)(out:List Bs)(p:Bs):List Bs:=if kl l (dA k p)==0&&!out.contains p then out++[p]else out
def dz(k:Int)(t:List bw)(l:List cn):List Bs:=(t.flatMap λf=>pieces f.2).foldl (im k l) []
def de(k:Int)(ps:List bJ)(n:Int):Option Bs:=ps.findSome? λp=>dY k p n
def gZ{p:Bs}(h:cj p=ab):∀b∈p,97<=b.toNat/\b.toNat<=122:=by intro b a;have:=bC.1 h b a;simpa[eZ]using this
def xC:∀(p:Bs) (n m:Int)(k:Nat),(∀b∈p,97<=b.toNat/\b.toNat<=122)->0<=n->n<m->1<=m ->
  0<=p.foldl (λn b=>27*n+((b.toNat:Int)-97) % 256+1) n/\p.foldl (λn b=>27*n+((b.toNat:Int)-97) % 256+1) n<m*27 ^ p.length
 |[],n,m,_,_,c,d,_=>by grind
 |b::p,n,m,k,a,c,d,f=>by obtain⟨g,q2⟩:=a b (by simp);have:=xC p (27*n+((b.toNat:Int)-97) % 256+1) (m*27) k (λx e=>a x (by grind)) (by omega) (by omega) (by omega);grind[Int.mul_assoc]
def Q3:∀{n:Nat},n<=8->(27:Int) ^ n<=282429536481:=by
 intro n a
 match n,a with
 |0,_|1,_|2,_|3,_|4,_|5,_|6,_|7,_|8,_=>decide
def qM{p:Bs}(h:bx p=ab):0<=codeOf p/\codeOf p<282429536481:=by simp only[bx,bR,a9]at h;obtain⟨a,q2⟩:=xC p 0 1 0 (gZ h.2) (by omega) (by omega) (by omega);have:=Q3 h.1.2;rw[Int.one_mul]at q2;exact⟨a,Int.lt_of_lt_of_le q2 this⟩
def cop:∀d:Fin 200,d.val≠0->Nat.gcd 999999999989 d.val=1:=by decide +kernel
def TP{a:Nat}{P c d:Int}(b:P=(a:Int))(h:P ∣ c*d)(g:0<c)(k:c<P)(f:Nat.gcd a d.natAbs=1):False:=by
 subst b;have i:a ∣ c.natAbs*d.natAbs:=by have:=Int.natAbs_dvd_natAbs.2 h;grind[Int.natAbs_mul,Int.natAbs_natCast]
 have e:a ∣ c.natAbs:=Nat.Coprime.dvd_of_dvd_mul_right f i;have j:=Nat.le_of_dvd (by omega) e;omega
def PH{a b P:Int}(h:a % P=b % P):P ∣ a-b:=Int.dvd_of_emod_eq_zero (by rw[Int.sub_emod,h,Int.sub_self,Int.zero_emod])
def tu(l:Bs):Int:=l.foldr (λb n=>27*n+((b.toNat:Int)-97) % 256+1) 0
def Dw:∀p:Bs,0<=tu p
 |[]=>by simp[tu]
 |b::p=>by have:=Dw p;simp only[tu,List.foldr_cons]at *;omega
def zC:∀{p q:Bs},(∀b∈p,97<=b.toNat/\b.toNat<=122)->(∀b∈q,97<=b.toNat/\b.toNat<=122)->tu p=tu q->p=q
 |[],[],_,_,_=>rfl
 |[],c::q,_,a,h|c::q,[],a,_,h=>by have:=Dw q;simp only[tu,List.foldr_cons,List.foldr_nil]at *;omega
 |b::p,c::q,d,a,h=>by have g:=d b (by simp);have i:=a c (by simp);have f:=zC (p:=p) (q:=q) (λx e=>d x (by grind)) (λx e=>a x (by grind));simp only[tu,List.foldr_cons]at h f;grind[UInt8.toNat_inj]
def FM{p q:Bs}(b:bx p=ab)(c:bx q=ab)(h:codeOf p=codeOf q):p=q:=by
 have e:∀p,codeOf p=tu p.reverse:=λp=>by simp[codeOf,tu,List.foldr_reverse]
 simp only[bx,bR]at b c;rw[e,e]at h;exact List.reverse_inj.1 (zC (λx a=>gZ b.2 x (List.mem_reverse.1 a)) (λx a=>gZ c.2 x (List.mem_reverse.1 a)) h)
def qQ{k:Int}(hk:b7 k=ab){p q:Bs}(c:bx p=ab)(e:bx q=ab)(h:dA k p=dA k q):p=q:=by
 refine FM c e ?_;simp only[b7,bR,a9]at hk;obtain⟨d,c1⟩:=qM c;obtain⟨f,d1⟩:=qM e;have key:∀x y:Int,0<=x->0<=y->x<282429536481->x>y->(x*(2*k+1)+k*7919) % 999999999989=(y*(2*k+1)+k*7919) % 999999999989->False:=by
  intro x y l m j g h;have b:=PH h;rw[show(x*(2*k+1)+k*7919)-(y*(2*k+1)+k*7919)=(x-y)*(2*k+1) by grind]at b;have i:(2*k+1).natAbs<200:=by omega
  exact TP (a:=999999999989) rfl b (by omega) (by omega) (cop ⟨_,i⟩ (by grind))
 rcases Int.lt_trichotomy (codeOf p) (codeOf q)with b|b|b
 .exact(key _ _ f d d1 b h.symm).elim
 .exact b
 .exact(key _ _ d f c1 b h).elim
theorem I1{p:Bs}(h:cj p=ab)(n:Nat):strip (p++List.replicate n 46)=p:=by
 have e:∀n,List.dropWhile (·==46) ((List.replicate n (46:UInt8))++p.reverse)=p.reverse:=by
  intro n;induction n with
  |zero =>
   simp only[List.replicate_zero,mL];cases f:p.reverse with
   |nil=>rfl
   |cons b r =>
    have d:b∈p:=List.mem_reverse.1 (by grind);have:=gZ h b d;have a:(b==46)=ae:=by simp only[eD];rintro rfl;grind
    simp[a]
  |succ n c=>simpa[List.replicate_succ]using c
 unfold strip;grind
def Dx{p:Bs}(h:bx p=ab):eH (eY p)=aa p:=by
 have a:cj p=ab:=by simp only[bx,bR]at h;exact h.2
 have e:eY p=p++List.replicate (cO p.length-p.length) 46:=by simp[eY,h]
 have s:strip (eY p)=p:=by grind[I1]
 simp[eH,s,h]
def mK(l:List bo)(i j:Nat):List bo:=(l.set i (l.getD j (0,[]))).set j (l.getD i (0,[]))
def n3(l:List bo)(i j:Nat):Bool:=decide ((l.getD i (0,[])).1<(l.getD j (0,[])).1)
def yu:Nat->List bo->Nat->List bo
  | 0,l,_=>l
  | f+1,l,j=>if(j-1) / 2=j then l else if n3 l j ((j-1) / 2)=ab then yu f (mK l ((j-1) / 2) j) ((j-1) / 2)else l
def n5(l:List bo)(i n:Nat):Nat:=if 2*i+2<n/\n3 l (2*i+2) (2*i+1)=ab then 2*i+2 else 2*i+1
def gO:Nat->List bo->Nat->Nat->List bo
  | 0,l,_,_=>l
  | f+1,l,i,n=>if n<=2*i+1 then l else if n3 l (n5 l i n) i=ab then gO f (mK l i (n5 l i n)) (n5 l i n) n else l
def g6(l:List bo)(x:bo):List bo:=yu (l.length+1) (l++[x]) l.length
def kN(l:List bo):List bo:=gO l.length (mK l 0 (l.length-1)) 0 (l.length-1)
def lP:Nat->List bo->List bo
  | 0,_=>[]
  | f+1,l=>if l.length=0 then[]else(kN l).getD (l.length-1) (0,[])::lP f ((kN l).take (l.length-1))
def m6(l:List bo):List bo:=lP l.length (l.foldl g6 [])
theorem gi(l:List bo)(i j:Nat):(mK l i j).length=l.length:=by simp[mK]
def He:∀f l j,(yu f l j).length=l.length
  | 0,_,_=>rfl
  | f+1,l,j=>by unfold yu;split;rfl;split;rw[He f,gi];rfl
def zm:∀f l i n,(gO f l i n).length=l.length
  | 0,_,_,_=>rfl
  | f+1,l,i,n=>by unfold gO;split;rfl;split;rw[zm f,gi];rfl
def zn(l:List bo)(x:bo):(g6 l x).length=l.length+1:=by simp[g6,He]
theorem Dd(l:List bo):(kN l).length=l.length:=by simp[kN,zm,gi]
def Po{l:List bo}{i j:Nat}(hi:i<l.length)(a:j<l.length){x:bo}:x∈mK l i j->x∈l:=by intro h;unfold mK at h;grind
def Hf(x:bo):g6 [] x=[x]:=by simp[g6,yu]
def LH(a x:bo):g6 [a] x=if x.1<a.1 then[x,a]else[a,x]:=by simp[g6,yu,n3,mK]
def Rc(a b x:bo):g6 [a,b] x=if x.1<a.1 then[x,b,a]else[a,b,x]:=by simp[g6,yu,n3,mK]
def Wh(a b c x:bo):g6 [a,b,c] x=if x.1<b.1 then(if x.1<a.1 then[x,a,c,b]else[a,x,c,b])else[a,b,c,x]:=by simp[g6,yu,n3,mK]
def uq(f:Nat){l r:List bo}{x:bo}{n:Nat}(a:l.length=n+1)(h:kN l=r++[x])(b:r.length=n):lP (f+1) l=x::lP f r:=by rw[lP,aY (by omega),h];grind
def Re(a:bo):lP 1 [a]=[a]:=by simp[lP,kN,gO,mK]
def Rf(a b:bo):lP 2 [a,b]=[a,b]:=by rw[uq 1 (r:=[b]) (x:=a) (n:=1) rfl (by simp[kN,gO,mK]) rfl,Re]
def Rg(a b c:bo):lP 3 [a,b,c]=if b.1<c.1 then[a,b,c]else[a,c,b]:=by rw[uq 2 (r:=if b.1<c.1 then[b,c]else[c,b]) (x:=a) (n:=2) rfl (by simp[kN,gO,mK,n5,n3];split<;>rfl) (by split<;>rfl)];split<;>rw[Rf]
def Wi(a b c d:bo):lP 4 [a,b,c,d]=a::lP 3 (if c.1<b.1 then(if c.1<d.1 then[c,b,d]else[d,b,c])else if b.1<d.1 then[b,d,c]else[d,b,c]):=by rw[uq 3 (r:=if c.1<b.1 then(if c.1<d.1 then[c,b,d]else[d,b,c])else if b.1<d.1 then[b,d,c]else[d,b,c]) (x:=a) (n:=3) rfl ?_ (by split<;>split<;>rfl)];by_cases g:c.1<b.1<;>by_cases f:c.1<d.1<;>by_cases e:b.1<d.1<;>simp[kN,gO,mK,n5,n3,g,f,e]
theorem LI(l:List bo)(h:l.length<=4)(e:l.Pairwise λa b=>a.1≠b.1):m6 l=l.foldl gC []:=by
  match l,h with
  | [],_=>rfl
  | [a],_=>simp[m6,Hf,Re,gC]
  | [a,b],_ =>
    simp at e;simp only[m6,List.foldl,Hf,LH,gC,fb,gG];split<;>simp[Rf]
  | [a,b,c],_ =>
    simp at e;obtain⟨⟨p,t⟩,s⟩:=e;simp only[m6,List.foldl,Hf,LH,gC,fb,gG];by_cases j:b.1<a.1<;>by_cases q2:c.1<a.1<;>by_cases f:c.1<b.1<;>first|omega |
      (have g:(a.1<b.1)=¬(b.1<a.1):=by grind
       have k:(a.1<c.1)=¬(c.1<a.1):=by grind
       have i:(b.1<c.1)=¬(c.1<b.1):=by grind
       simp[j,q2,f,g,k,i,Rc,Rg,gC])
  | [a,b,c,d],_ =>
    simp at e;obtain⟨⟨p,t,s⟩,⟨w,v⟩,u⟩:=e;simp only[m6,List.foldl,Hf,LH,gC,fb,gG];by_cases j:b.1<a.1<;>by_cases q2:c.1<a.1<;>by_cases f:c.1<b.1<;>by_cases q4:d.1<a.1<;>by_cases m:d.1<b.1<;>by_cases q:d.1<c.1<;>first|omega |
      (have g:(a.1<b.1)=¬(b.1<a.1):=by grind
       have k:(a.1<c.1)=¬(c.1<a.1):=by grind
       have i:(b.1<c.1)=¬(c.1<b.1):=by grind
       have n:(a.1<d.1)=¬(d.1<a.1):=by grind
       have r:(b.1<d.1)=¬(d.1<b.1):=by grind
       have o:(c.1<d.1)=¬(d.1<c.1):=by grind
       simp[j,q2,f,q4,m,q,g,k,i,n,r,o,Rc,Wh,Wi,Rg,gC])
section
open Go.Proofs Go.Conc.Lib
def Q6:WgLink:={add:=141,done:=143,wait:=145,relMerge:=166,disable:=167,enable:=168,inBubble:=169,associate:=170,fatal:=171,uOr:=172,uAdd:=173,raceRead:=174,uLoad:=175,uStore:=176,disassociate:=177,semrelease:=178,acquire:=180,isAssociated:=181,uCas:=182,raceWrite:=183,semacquire:=184,orU64:=207,addU64:=208,loadU64:=209,storeU64:=210,casU64:=213,tWgP:=245,tUP:=123,tAssoc:=247,tWg:=215,tAU:=212,tU64:=210,tUint:=230,tU32:=213,tPU32:=251,tPAU:=280,tPU64:=282,tNoCopy:=207,tANoCopy:=208,tAlign64:=209}
def C7:WgLib ag Q6 where
 f_add:=Tryz.func141.trans (dJ aa (by kernel_rfl))
 f_done:=Tryz.func143.trans (dJ aa (by kernel_rfl))
 f_wait:=Tryz.func145.trans (dJ aa (by kernel_rfl))
 f_relMerge:=Tryz.func166.trans (dJ aa (by kernel_rfl))
 f_disable:=Tryz.func167.trans (dJ aa (by kernel_rfl))
 f_enable:=Tryz.func168.trans (dJ aa (by kernel_rfl))
 f_inBubble:=Tryz.func169.trans (dJ aa (by kernel_rfl))
 f_associate:=Tryz.func170.trans (dJ aa (by kernel_rfl))
 f_fatal:=Tryz.func171.trans (dJ aa (by kernel_rfl))
 f_uOr:=Tryz.func172.trans (dJ aa (by kernel_rfl))
 f_uAdd:=Tryz.func173.trans (dJ aa (by kernel_rfl))
 f_raceRead:=Tryz.func174.trans (dJ aa (by kernel_rfl))
 f_uLoad:=Tryz.func175.trans (dJ aa (by kernel_rfl))
 f_uStore:=Tryz.func176.trans (dJ aa (by kernel_rfl))
 f_disassociate:=Tryz.func177.trans (dJ aa (by kernel_rfl))
 f_semrelease:=Tryz.func178.trans (dJ aa (by kernel_rfl))
 f_acquire:=Tryz.func180.trans (dJ aa (by kernel_rfl))
 f_isAssociated:=Tryz.func181.trans (dJ aa (by kernel_rfl))
 f_uCas:=Tryz.func182.trans (dJ aa (by kernel_rfl))
 f_raceWrite:=Tryz.func183.trans (dJ aa (by kernel_rfl))
 f_semacquire:=Tryz.func184.trans (dJ aa (by kernel_rfl))
 f_orU64:=Tryz.func207.trans (dJ aa (by kernel_rfl))
 f_addU64:=Tryz.func208.trans (dJ aa (by kernel_rfl))
 f_loadU64:=Tryz.func209.trans (dJ aa (by kernel_rfl))
 f_storeU64:=Tryz.func210.trans (dJ aa (by kernel_rfl))
 f_casU64:=Tryz.func213.trans (dJ aa (by kernel_rfl))
 underlying_tWgP:=Tryz.underlying245
 runUnderlying_tWgP:=Tryz.runUnderlying245
 sizeOf_tWgP:=Tryz.sizeOf245
 isAgg_tWgP:=Tryz.isAgg245
 zeroValue_tWgP:=Tryz.zeroValue245
 underlying_tUP:=Tryz.underlying123
 runUnderlying_tUP:=Tryz.runUnderlying123
 sizeOf_tUP:=Tryz.sizeOf123
 isAgg_tUP:=Tryz.isAgg123
 zeroValue_tUP:=Tryz.zeroValue123
 underlying_tI32:=Tryz.underlying247
 runUnderlying_tI32:=Tryz.runUnderlying247
 sizeOf_tI32:=Tryz.sizeOf247
 isAgg_tI32:=Tryz.isAgg247
 zeroValue_tI32:=Tryz.zeroValue247
 underlying_tWg:=Tryz.underlying215
 runUnderlying_tWg:=Tryz.runUnderlying215
 sizeOf_tWg:=Tryz.sizeOf215
 isAgg_tWg:=Tryz.isAgg215
 zeroValue_tWg:=Tryz.zeroValue215
 underlying_tAU:=Tryz.underlying212
 runUnderlying_tAU:=Tryz.runUnderlying212
 sizeOf_tAU:=Tryz.sizeOf212
 isAgg_tAU:=Tryz.isAgg212
 zeroValue_tAU:=Tryz.zeroValue212
 underlying_tU64:=Tryz.underlying210
 runUnderlying_tU64:=Tryz.runUnderlying210
 sizeOf_tU64:=Tryz.sizeOf210
 isAgg_tU64:=Tryz.isAgg210
 zeroValue_tU64:=Tryz.zeroValue210
 underlying_tSh:=Tryz.underlying230
 runUnderlying_tSh:=Tryz.runUnderlying230
 sizeOf_tSh:=Tryz.sizeOf230
 isAgg_tSh:=Tryz.isAgg230
 zeroValue_tSh:=Tryz.zeroValue230
 underlying_tU32:=Tryz.underlying213
 runUnderlying_tU32:=Tryz.runUnderlying213
 sizeOf_tU32:=Tryz.sizeOf213
 isAgg_tU32:=Tryz.isAgg213
 zeroValue_tU32:=Tryz.zeroValue213
 underlying_tPU32:=Tryz.underlying251
 runUnderlying_tPU32:=Tryz.runUnderlying251
 sizeOf_tPU32:=Tryz.sizeOf251
 isAgg_tPU32:=Tryz.isAgg251
 zeroValue_tPU32:=Tryz.zeroValue251
 underlying_tPAU:=Tryz.underlying280
 runUnderlying_tPAU:=Tryz.runUnderlying280
 sizeOf_tPAU:=Tryz.sizeOf280
 isAgg_tPAU:=Tryz.isAgg280
 zeroValue_tPAU:=Tryz.zeroValue280
 underlying_tPU64:=Tryz.underlying282
 runUnderlying_tPU64:=Tryz.runUnderlying282
 sizeOf_tPU64:=Tryz.sizeOf282
 isAgg_tPU64:=Tryz.isAgg282
 zeroValue_tPU64:=Tryz.zeroValue282
 underlying_t0:=Tryz.underlying0
 runUnderlying_t0:=Tryz.runUnderlying0
 sizeOf_t0:=Tryz.sizeOf0
 isAgg_t0:=Tryz.isAgg0
 zeroValue_t0:=Tryz.zeroValue0
 underlying_t3:=Tryz.underlying3
 runUnderlying_t3:=Tryz.runUnderlying3
 sizeOf_t3:=Tryz.sizeOf3
 isAgg_t3:=Tryz.isAgg3
 zeroValue_t3:=Tryz.zeroValue3
 underlying_t4:=Tryz.underlying4
 runUnderlying_t4:=Tryz.runUnderlying4
 sizeOf_t4:=Tryz.sizeOf4
 isAgg_t4:=Tryz.isAgg4
 zeroValue_t4:=Tryz.zeroValue4
 underlying_t9:=Tryz.underlying9
 runUnderlying_t9:=Tryz.runUnderlying9
 sizeOf_t9:=Tryz.sizeOf9
 isAgg_t9:=Tryz.isAgg9
 zeroValue_t9:=Tryz.zeroValue9
 underlying_t20:=Tryz.underlying20
 runUnderlying_t20:=Tryz.runUnderlying20
 sizeOf_t20:=Tryz.sizeOf20
 isAgg_t20:=Tryz.isAgg20
 zeroValue_t20:=Tryz.zeroValue20
 underlying_t21:=Tryz.underlying21
 runUnderlying_t21:=Tryz.runUnderlying21
 sizeOf_t21:=Tryz.sizeOf21
 isAgg_t21:=Tryz.isAgg21
 zeroValue_t21:=Tryz.zeroValue21
 room_tWg:=by kernel_rfl
 room_tU32:=by kernel_rfl
end
end Go.AM.R1
namespace Go.AM
def cp.imp{σ:List aR}{s:St}{d a:D}{ds Gr:List D}(h:∀v,dt σ s v d->dt σ s v a)(k:∀vs,cp σ s vs ds->cp σ s vs Gr):∀vs,cp σ s vs (d::ds)->cp σ s vs (a::Gr)
 |[],r=>r.elim
 |v::vs,r=>⟨h v r.1,k vs r.2⟩
abbrev dP(f:bw):D:=.e (.agg [.c (.str f.1),.c (.str f.2)])
abbrev Pc(a:List bw)(b:Bool):D:=.fa [.one (.c (.sl ae 2 a.length (cF.fn a))),.one (.c (.bool b))]
namespace R1
variable {X:Cx ag}
def WK:dv:=λargs σ=>match args,σ with
 |[c],[]=>match ky 2 c with
  |none=>af
  |some (a,b)=>aa (dB (cC (cF.list a b)),[],[cF.fits a b])
 |_,_=>af
def t10:er X 10 WK:=by
 intro args σ res σ' obs h b;unfold WK at h;split at h
 .split at h
  .cases h
  rename_i c d a;cases h;exact(zp _ ).args (λ_ vs=>cp.imp (λ_=>cF.jH a b) (λ_ r=>r) vs)
 grind
def ct3:List (Nat×dv):=(10,WK)::ct2
def Z4:bL X ct3:=bL.cons t10 uC
end R1
def mI.cy{α:Type}(c:mI α)(l:List α)(x:α):cA (l.length+1) (cK l.length (c.fn l) (λi=>[c.enc x].getD i [])) (c.fn (l++[x])):=by intro i hi;unfold cK mI.fn Bd;grind
@[simp] theorem cA.same{n:Nat}{f:Nat->List C}:cA n f f:=λ_ _=>rfl
@[simp] theorem cA.nil{f g:Nat->List C}:cA 0 f g:=λi h=>by omega
namespace R1
variable {X:Cx ag}
def mD(t:List bw)(p:Bs):List bw:=t.filter λf=>!(f.1==p)
def FR{t:List bw}{p:Bs}{i:Nat}(h:i<t.length):mD (t.take (i+1)) p=mD (t.take i) p++(if fE t i=p then[]else[(fE t i,tK t i)]):=by
 have e:t.getD i ([],[])=t[i]:=by grind
 have a:(fE t i,tK t i)=t[i]:=by simp only[fE,tK,e]
 rw[lC,br h,a];simp only[mD,List.filter_append,Option.toList_some];grind
theorem I6(t:List bw)(p:Bs):(mD t p).length<=t.length:=List.length_filter_le _ _
def Hv(t:List bw)(p:Bs)(f:t.length<=4000000):Ev X 107 [cF.sl t,dS p] [] (cF.sl (mD t p)) []:=by
 refine Ev.bQ Tryz.func107 rfl λc=>?_;refine bt rfl ay ?_;refine AK.iM 5 82 2 rfl rfl ?_;refine AK.kg (λi=>i<=t.length) (λi:Nat=>[(0,cF.sl t),(1,dS p),(6,dI i),(5,.e (.one (.vec 0 2 (mD (t.take i) p).length (cF.fn (mD (t.take i) p)))))]) (λi=>[.vec 82 2 (mD (t.take i) p).length (cF.fn (mD (t.take i) p))]) (λi=>t.length-i) 0 rfl ?_ rfl ?_ (by omega) ?_
 .simp[cA,mD]
 .simp[cA,mD]
 intro i hi;by_cases h:i<t.length
 .have a:=FR (p:=p) h;have d:(mD (t.take i) p).length<=4000000:=by grind[I6]
  by_cases b:fE t i=p
  .rw[bl b,iD]at a;refine aX [(11,ab),(20,ae)] rfl ?_ (AK.gb (i+1) rfl ?_ rfl ?_ ?_ ?_)
   .simp[-ak,h,gT,b,bD];omega
   .rw[a];simp[cA]
   .rw[a];simp[cA]
   .omega
   .omega
  .rw[aY b]at a;refine aX [(11,ab),(20,ab)] rfl ?_ (AK.gb (i+1) rfl ?_ rfl ?_ ?_ ?_)
   .simp[-ak,h,gT,b,bD,i82];omega
   .rw[a];simp[-ak];exact cF.cy _ (fE t i,tK t i)
   .rw[a];simp[-ak];exact cF.cy _ (fE t i,tK t i)
   .omega
   .omega
 .have:i=t.length:=by omega
  subst this;refine aX [(11,ae)] rfl (by simp) (AK.leave rfl rfl ?_);refine bt rfl ay (AK.bz rfl ?_);simp[cA]
def TT:dv:=λargs σ=>match args,σ with
 |[f,.e (.one (.c (.str b)))],[]=>match ky 2 f with
  |none=>af
  |some (a,d)=>aa (cF.sl (mD (cF.list a d) b),[],[cF.fits a d,((cF.list a d)).length<=4000000])
 |_,_=>af
def t107:er X 107 TT:=by
 intro args σ res σ' obs h a;unfold TT at h;split at h
 .split at h
  .cases h
  rename_i c d b;cases h;exact(Hv _ _ (a.2)).args (λ_ vs=>cp.imp (λ_=>cF.jH b a.1) (cp.imp (λ_ r=>r) (λ_ r=>r)) vs)
 grind
def ct5:List (Nat×dv):=(107,TT)::ct3
def Z6:bL X ct5:=bL.cons t107 Z4
end R1
def Fits.Rq{args:List D}{σ:List aR}(h:Fits args σ)(k:Nat){cs:List A}(hk:args[k]?=aa (.e (.agg cs)))(j:Nat){t:Bool}{q n:Nat}{es:Nat->List C}(hj:cs[j]?=aa (A.c (.sl t q n es))):n<=9223372036854775807:=by obtain⟨s,v,b⟩:=h.at hk;obtain⟨vs,_,h2⟩:=b;obtain⟨u,_,a⟩:=ei.get h2 hj;cases a<;>omega
namespace R1
def iP{n i:Nat}{p:Nat->Bool}(hi:i<n)(h:p i=ae):(bh n).all p=ae:=by grind
def kn{i:Nat}{p:Nat->Bool}(a:∀j,j<i->p j=ab)(h:p i=ab):∀j,j<i+1->p j=ab:=λj b=>by grind
end R1
def Tr.put(a b:Int):Tr->Tr
 |.nil=>.nd .nil a b .nil
 |.nd l x y r=>if a<x then .nd (l.put a b) x y r else if x<a then .nd l x y (r.put a b)else .nd l a b r
def Tr.list:Tr->List (Int×Int)
 |.nil=>[]
 |.nd l x y r=>l.list++(x,y)::r.list
def Tr.find(n:Int):Tr->Int
 |.nil=>0
 |.nd l x y r=>if n=x then y else if n<x then l.find n else r.find n
namespace R1
theorem Mq{l:List cn}{s:cn}(h:∀x∈l,x.1<s.1):fS l s=l++[s]:=by
 induction l with
 |nil=>rfl
 |cons y r a =>
  simp only[fS];grind
def Dy{l r:List cn}{s:cn}(h:∀x∈l,x.1<s.1):fS (l++r) s=l++fS r s:=by
 induction l with
 |nil=>rfl
 |cons y l a =>
  simp only[sq,fS];grind
def I2{l r:List cn}{s:cn}(h:∀x∈r,s.1<x.1):fS (l++r) s=fS l s++r:=by
 have e:r.filter (λz=>!(z.1==s.1))=r:=z9.2 λx b=>by grind
 induction l with
 |nil =>
  cases r with
  |nil=>rfl
  |cons y r =>
   have:=h y lB;simp only[mL,fS];grind
 |cons y l a =>
  simp only[sq,fS];grind
abbrev Tr.Ok(t:Tr):Prop:=t.list.Pairwise λx y=>x.1<y.1
theorem yb{a b:Int}:∀{t:Tr},Tr.Ok t->(t.put a b).list=fS t.list (a,b)
 |.nil,_=>rfl
 |.nd l x y r,h=>by
  obtain⟨g,k,j⟩:=qf.1 h;have i:=jB.1 k;have f:∀z∈l.list,z.1<x:=λz c=>j z c (x,y) lB;simp only[Tr.put,Tr.list];split
  .rename_i d;simp only[Tr.list];rw[yb (t:=l) g,I2 (r:=(x,y)::r.list)];grind
  split
  .rename_i _ d;simp only[Tr.list];rw[yb (t:=r) i.2,Dy (l:=l.list) λz c=>by grind];simp only[fS];grind
  .have e:a=x:=by omega
   subst e;simp only[Tr.list];rw[Dy (l:=l.list) λz c=>f z c];simp only[fS];rw[aY (by simp),List.filter_cons,aY (by simp),z9.2 λz c=>by grind]
theorem PI{l:List cn}{s:cn}(h:l.Pairwise λx y=>x.1<y.1):(fS l s).Pairwise (λx y=>x.1<y.1)/\∀z∈fS l s,z=s∨z∈l:=by
 induction l with
 |nil=>simp[fS]
 |cons y r a =>
  obtain⟨d,b⟩:=jB.1 h;obtain⟨c,i2⟩:=a b;simp only[fS];grind[List.pairwise_cons]
def uB{n:Int}:∀{t:Tr},Tr.Ok t->t.find n=kl t.list n
 |.nil,_=>rfl
 |.nd l x y r,h=>by obtain⟨b,e,d⟩:=qf.1 h;have c:=jB.1 e;have g:∀z∈l.list,z.1<x:=λz a=>d z a (x,y) lB;simp only[Tr.find,Tr.list];have f:=uB (n:=n) (t:=l) b;have i2:=uB (n:=n) (t:=r) c.2;unfold kl at *;grind
end R1
end Go.AM
namespace Go.AM.R1
section
variable {X:Cx ag}
def rY(f:bw)(acc:List bw×Bool)(g:Bs):List bw×Bool:=if acc.2=ab then acc else if bm g f.1=ab then acc else(acc.1++[f],ab)
def PQ(f:bw)(a:List bw×Bool)(g:bw):List bw×Bool:=if g.1=f.1 then a else(a.1++[g],a.2)
def oO(f:bw)(acc:List bw×Bool)(g:bw):List bw×Bool:=PQ f (rY f acc g.1) g
def lI(f:bw)(t:List bw):List bw×Bool:=t.foldl (oO f) ([],ae)
def tA(t:List bw)(f:bw):List bw:=if(lI f t).2=ab then(lI f t).1 else(lI f t).1++[f]
theorem fileAt{t:List bw}{i:Nat}(h:i<t.length):t[i]=(fE t i,tK t i):=by
 have e:t.getD i ([],[])=t[i]:=by grind
 simp only[fE,tK,e]
def DI{f:bw}{t:List bw}{i:Nat}(h:i<t.length):lI f (t.take (i+1))=oO f (lI f (t.take i)) (fE t i,tK t i):=by rw[lC,br h,fileAt h];simp[lI]
def DJ(f:bw)(acc:List bw×Bool)(g:Bs):(rY f acc g).1.length<=acc.1.length+1:=by unfold rY;grind
def Mz(f:bw)(acc:List bw×Bool)(g:bw):(PQ f acc g).1.length<=acc.1.length+1:=by unfold PQ;grind
def yc(f:bw):∀(t:List bw)(acc:List bw×Bool),(t.foldl (oO f) acc).1.length<=acc.1.length+2*t.length
 |[],acc=>by simp
 |g::r,acc=>by
  have c:=yc f r (oO f acc g);have b:=DJ f acc g.1;have a:=Mz f (rY f acc g.1) g;simp only[jC,fb];have:(oO f acc g).1.length<=acc.1.length+2:=by unfold oO;omega
  omega
abbrev dV(l:Nat)(t:List bw):D:=.e (.one (.vec l 2 t.length (cF.fn t)))
abbrev bV(t:List bw):aR:=.vec 82 2 t.length (cF.fn t)
def PR(t:List bw)(f:bw)(s:t.length<=4000000):Ev X 108 [cF.sl t,dP f] [] (dV 0 (tA t f)) [bV (tA t f)]:=by
 refine Ev.bQ Tryz.func108 rfl λr=>?_;refine bt rfl ay ?_;refine AK.iM 5 82 2 rfl rfl ?_;let A:Nat->List bw×Bool:=λi=>lI f (t.take i);have b:∀i,i<=t.length->(A i).1.length<=8000000:=by intro i hi;have:=yc f (t.take i) ([],ae);simp at this;show(lI f (t.take i)).1.length<=_;unfold lI;omega
 refine AK.kg (λi=>i<=t.length) (λi:Nat=>[(0,cF.sl t),(3,.e (.one (.ptr 0 0))),(7,dI i),(5,dV 1 (A i).1),(6,dB (A i).2)]) (λi=>[.cells 82 [.c (.str f.1),.c (.str f.2)],bV (A i).1]) (λi=>t.length-i) 0 rfl ?_ rfl ?_ (by omega) ?_
 .simp[cA,A,lI]
 .simp[cA,A,lI]
 intro i hi;by_cases h:i<t.length
 .have o:A (i+1)=oO f (A i) (fE t i,tK t i):=DI h;have p:=b i hi;generalize A i=acc at *;have q:=DJ f acc (fE t i);apply AK.join [(0,cF.sl t),(3,.e (.one (.ptr 0 0))),(7,dI i),(5,dV 1 (rY f acc (fE t i)).1),(6,dB (rY f acc (fE t i)).2)] [.cells 82 [.c (.str f.1),.c (.str f.2)],bV (rY f acc (fE t i)).1]
  .intro hk;cases d:acc.2 with
   |true =>
    have j:rY f acc (fE t i)=acc:=by unfold rY;grind
    rw[j]at hk;refine bO [(12,ab),(15,ab),(1000009,ab)] rfl ?_ (hk _ _ rfl ?_)
    .simp[h]
    .simp[d]
   |false =>
    cases l:bm (fE t i) f.1 with
    |true =>
     have j:rY f acc (fE t i)=acc:=by unfold rY;grind
     rw[j]at hk;refine bO [(12,ab),(15,ae),(25,ae),(1000009,ab)] rfl ?_ (hk _ _ rfl ?_)
     .simp[-ak,h,gT,l]
     .simp[d]
    |false =>
     have j:rY f acc (fE t i)=(acc.1++[f],ab):=by unfold rY;grind
     rw[j]at hk;refine bO [(12,ab),(15,ae),(25,ab),(1000009,ab)] rfl ?_ (AK.norm _ rfl ?_ (hk _ _ rfl ?_))
     .simp[-ak,h,gT,l,i82];omega
     .simp[-ak];exact cF.cy _ f
     .simp[-ak];exact cF.cy _ f
  .have k:A (i+1)=PQ f (rY f acc (fE t i)) (fE t i,tK t i):=o;generalize rY f acc (fE t i)=a1 at *;by_cases m:fE t i=f.1
   .have a:A (i+1)=a1:=by rw[k];exact bl m
    refine bO [(38,ae)] rfl ?_ (AK.gb (i+1) rfl ?_ rfl ?_ ?_ ?_)
    .simp[-ak,h,gT,m,bD];omega
    .rw[a];simp
    .rw[a];simp
    .omega
    .omega
   .have a:A (i+1)=(a1.1++[(fE t i,tK t i)],a1.2):=by rw[k];exact aY m
    refine bO [(38,ab)] rfl ?_ (AK.gb (i+1) rfl ?_ rfl ?_ ?_ ?_)
    .simp[-ak,h,gT,m,bD,i82];omega
    .rw[a];simp[-ak];exact cF.cy _ (fE t i,tK t i)
    .rw[a];simp[-ak];exact cF.cy _ (fE t i,tK t i)
    .omega
    .omega
 .have:i=t.length:=by omega
  subst this;have n:A t.length=lI f t:=by grind
  have p:=b t.length (bc _);refine aX [(12,ae)] rfl (by simp) (AK.leave rfl rfl ?_);have g:tA t f=if(A t.length).2=ab then(A t.length).1 else(A t.length).1++[f]:=by rw[n];rfl
  cases d:(A t.length).2 with
  |true =>
   rw[d,bl rfl]at g;refine aX [(46,ab)] rfl ?_ (AK.norm [.cells 82 [.c (.str f.1),.c (.str f.2)],bV (tA t f)] rfl ?_ (AK.dk [1] rfl ?_ rfl rfl rfl ?_))
   .simp
   .rw[g];simp
   .rw[g];simp
   grind
  |false =>
   rw[d,aY (by simp)]at g;refine aX [(46,ae)] rfl ?_ (AK.norm [.cells 82 [.c (.str f.1),.c (.str f.2)],bV (tA t f)] rfl ?_ (AK.dk [1] rfl ?_ rfl rfl rfl ?_))
   .simp[i82];omega
   .rw[g];simp[-ak];exact cF.cy _ f
   .rw[g];simp[-ak];exact cF.cy _ f
   grind
end
end Go.AM.R1
namespace Go.AM
def cA.app0{n:Nat}{f g:Nat->List C}:cA n (cK 0 f g) g:=λi _=>by simp[cK]
namespace R1
variable {X:Cx ag}
def TU:dv:=λargs σ=>match args,σ with
 |[d,.e (.agg [.c (.str b0),.c (.str b1)])],[]=>match ky 2 d with
  |none=>af
  |some (a,b)=>aa (dV 0 (tA (cF.list a b) (b0,b1)) ,[ bV (tA (cF.list a b) (b0,b1))],[cF.fits a b,((cF.list a b)).length<=4000000])
 |_,_=>af
def t108:er X 108 TU:=by
 intro args σ res σ' obs h a;unfold TU at h;split at h
 .split at h
  .cases h
  rename_i c d b;cases h;exact(PR _ _ (a.2)).args (λ_ vs=>cp.imp (λ_=>cF.jH b a.1) (cp.imp (λ_ r=>r) (λ_ r=>r)) vs)
 .cases h
def ct6:List (Nat×dv):=(108,TU)::ct5
def I7:bL X ct6:=bL.cons t108 (Z6)
def ez(t:List bw)(p x:Bs):List bw×Bool :=
 if cC t=ab/\dM p=ab/\et x=ab then(if cC (tA t (p,x))=ab then(tA t (p,x),ab)else(t,ae))else([],ae)
abbrev tVB(l:Nat)(t:List bw)(b:Bool):D:=.fa [.one (.vec l 2 t.length (cF.fn t)),.one (.c (.bool b))]
def mE{t:List bw}(h:cC t=ab):t.length<=6:=by simp only[cC,bR,a9]at h;exact h.2
def va(t:List bw)(p x:Bs):Ev X 59 [cF.sl t,dS p,dS x] [] (tVB 0 (ez t p x).1 (ez t p x).2) [bV (ez t p x).1]:=by
 refine Ev.bQ Tryz.func59 rfl λg=>?_;have b:¬(cC t=ab/\dM p=ab/\et x=ab)->ez t p x=([],ae):=λh=>aY h;cases a:cC t with
 |false =>
  rw[b (by grind)];refine aW I7 [(10,ae)] rfl ?_ ?_
  .simp[cF.list_fn,cF.aO,a]
  .refine AK.iM 6 82 2 rfl rfl (AK.norm [bV []] rfl ?_ (AK.dk [0] rfl ?_ rfl rfl rfl ?_))
   .simp[cA]
   .simp[cA]
   grind
 |true =>
  have i:=mE a;cases c:dM p with
  |false =>
   rw[b (by grind)];refine aW I7 [(10,ab),(14,ae)] rfl ?_ ?_
   .simp[cF.list_fn,cF.aO,a,c]
   .refine AK.iM 6 82 2 rfl rfl (AK.norm [bV []] rfl ?_ (AK.dk [0] rfl ?_ rfl rfl rfl ?_))
    .simp[cA]
    .simp[cA]
    grind
  |true =>
   cases f:et x with
   |false =>
    rw[b (by grind)];refine aW I7 [(10,ab),(14,ab),(19,ae)] rfl ?_ ?_
    .simp[cF.list_fn,cF.aO,a,c,f]
    .refine AK.iM 6 82 2 rfl rfl (AK.norm [bV []] rfl ?_ (AK.dk [0] rfl ?_ rfl rfl rfl ?_))
     .simp[cA]
     .simp[cA]
     grind
   |true =>
    have e:ez t p x=if cC (tA t (p,x))=ab then(tA t (p,x),ab)else(t,ae):=bl ⟨a,c,f⟩;cases d:cC (tA t (p,x))with
    |true =>
     rw[d,bl rfl]at e;rw[e];refine aW I7 [(10,ab),(14,ab),(19,ab),(29,ab)] rfl ?_ (AK.norm [bV (tA t (p,x))] rfl ?_ (AK.dk [0] rfl ?_ rfl rfl rfl ?_))
     .simp[cF.list_fn,cF.aO,a,c,f,d];omega
     .simp[cF.list_fn]
     .simp[cF.list_fn]
     grind
    |false =>
     rw[d,aY (by simp)]at e;rw[e];refine aW I7 [(10,ab),(14,ab),(19,ab),(29,ae)] rfl ?_ (AK.norm [bV (tA t (p,x)),bV t] rfl ?_ (AK.dk [1] rfl ?_ rfl rfl rfl ?_))
     .simp[cF.list_fn,cF.aO,a,c,f,d,i82];omega
     .simp[cF.list_fn,cA.app0]
     .simp[cA.app0]
     grind
def yd(t:List bw)(p x:Bs):Ev X 59 [cF.sl t,dS p,dS x] [] (Pc (ez t p x).1 (ez t p x).2) [] :=
 (va t p x).forget rfl (by simp) rfl
def Z7:dv:=λargs σ=>match args,σ with
 |[f,.e (.one (.c (.str b))),.e (.one (.c (.str c)))],[]=>match ky 2 f with
  |none=>af
  |some (a,d)=>aa (Pc (ez (cF.list a d) b c).1 (ez (cF.list a d) b c).2,[],[cF.fits a d])
 |_,_=>af
def t59:er X 59 Z7:=by
 intro args σ res σ' obs h b;unfold Z7 at h;split at h
 .split at h
  .cases h
  rename_i c d a;cases h;exact(yd _ _ _ ).args (λ_ vs=>cp.imp (λ_=>cF.jH a b) (cp.imp (λ_ r=>r) (cp.imp (λ_ r=>r) (λ_ r=>r))) vs)
 .cases h
def ct7:List (Nat×dv):=(59,Z7)::ct6
def Z8:bL X ct7:=bL.cons t59 (I7)
end R1
def Io(cs:List C)(j:Nat):Nat×(Nat->List C):=match dC j cs with|some (.sl _ _ n es)=>(n,es)|_=>(0,λ_=>[])
def cI:mI Int:={k:=1,enc:=λn=>[.int .i64 n],dec:=λcs=>xI cs 0,cd:=0,inv:=λ_=>rfl,len:=λ_=>rfl}
def cS:mI Bs:={k:=1,enc:=λs=>[.str s],dec:=λcs=>C2 cs 0,cd:=[],inv:=λ_=>rfl,len:=λ_=>rfl}
namespace R1
def eg:mI bo:={k:=2,enc:=λx=>[.int .i64 x.1,.str x.2],dec:=λcs=>(xI cs 0,C2 cs 1),cd:=(0,[]),inv:=λ_=>rfl,len:=λ_=>rfl}
def pn:mI cn:={k:=2,enc:=λx=>[.int .i64 x.1,.int .i64 x.2],dec:=λcs=>(xI cs 0,xI cs 1),cd:=(0,0),inv:=λ_=>rfl,len:=λ_=>rfl}
abbrev sP(p:bJ):C:=.sl ae 2 p.2.length (eg.fn p.2)
def cP:mI bJ:={k:=2,enc:=λp=>[.int .i64 p.1,sP p],dec:=λcs=>(xI cs 0,eg.list (Io cs 1).1 (Io cs 1).2),cd:=(0,[]),inv:=λp=>by show(p.1,eg.list p.2.length (eg.fn p.2))=p;rw[eg.list_fn],len:=λ_=>rfl}
def cL:mI js:={k:=2,enc:=λx=>[.str x.1,.sl ae 1 x.2.length (cI.fn x.2)],dec:=λcs=>(C2 cs 0,cI.list (Io cs 1).1 (Io cs 1).2),cd:=([],[]),inv:=λp=>by show(p.1,cI.list p.2.length (cI.fn p.2))=p;rw[cI.list_fn],len:=λ_=>rfl}
def fi:mI fe:={k:=2,enc:=λx=>[.int .i64 x.1,.sl ae 2 x.2.length (cL.fn x.2)],dec:=λcs=>(xI cs 0,cL.list (Io cs 1).1 (Io cs 1).2),cd:=(0,[]),inv:=λp=>by show(p.1,cL.list p.2.length (cL.fn p.2))=p;rw[cL.list_fn],len:=λ_=>rfl}
def cH:mI (Int×Int):=pn
abbrev Lk(p:bJ):D:=.e (.agg [.c (.int .i64 p.1),.c (sP p)])
abbrev XY(r:Option Bs):D:=.e (.agg [.c (.str (r.getD [])),.c (.bool r.isSome)])
end R1
structure Arg(α:Type) where
 enc:α->D
 arg:D->Option (α×List Prop)
 ok:∀{d a o},arg d=aa (a,o)->az o->∀{σ:List aR} {s:St} {v:ah},dt σ s v d->dt σ s v (enc a)
def aI:Arg Int:=⟨dI,λd=>match d with|.e (.one (.c (.int .i64 n)))=>aa (n,[])|_=>af,λ{d a o} h _ _ _ _ r=>by grind⟩
def aS:Arg Bs:=⟨dS,λd=>match d with|.e (.one (.c (.str n)))=>aa (n,[])|_=>af,λ{d a o} h _ _ _ _ r=>by grind⟩
def aL{α:Type}(c:mI α):Arg (List α):=⟨c.sl,λd=>match ky c.k d with|some (n,es)=>aa (c.list n es,[c.fits n es])|none=>af,λ{d a o} h b _ _ _ r=>by
 split at h
 .rename_i n es he;cases h;exact c.jH he b r
 .cases h⟩
def UA:Arg (Int×Bs):=⟨λx=>.e (.agg [.c (.int .i64 x.1),.c (.str x.2)]),λd=>match d with|.e (.agg [.c (.int .i64 a),.c (.str b)])=>aa ((a,b),[])|_=>af,λ{d a o} h _ _ _ _ r=>by grind⟩
def UB:Arg (Int×Int):=⟨λx=>.e (.agg [.c (.int .i64 x.1),.c (.int .i64 x.2)]),λd=>match d with|.e (.agg [.c (.int .i64 a),.c (.int .i64 b)])=>aa ((a,b),[])|_=>af,λ{d a o} h _ _ _ _ r=>by grind⟩
def Fh{α:Type}(c:mI α):Arg (Int×List α):=⟨λx=>.e (.agg [.c (.int .i64 x.1),.c (.sl ae c.k x.2.length (c.fn x.2))]),λd=>match d with
 |.e (.agg [.c (.int .i64 a),.c b])=>match ky c.k (.e (.one (.c b)))with|some (n,es)=>aa ((a,c.list n es),[c.fits n es])|none=>af
 |_=>af,λ{d a o} h l _ s _ r=>by
 split at h
 .split at h
  .rename_i n es he;cases h;obtain⟨vs,m,g⟩:=r
   match vs,g with
   |[],g=>exact g.elim
   |[_],g=>exact g.2.elim
   |_::_::_::_,g=>exact g.2.2.elim
   |[q,p],g=>exact⟨_,m,g.1,c.jH (σ:=[]) (s:=s) (v:=p) he l g.2.1,ay⟩
  .cases h
 .cases h⟩
def kL{α:Type}(A:Arg α)(res:α->D)(pre:α->List Prop):dv:=λargs σ=>match args,σ with
 |[d],[]=>match A.arg d with
  |some (a,o)=>aa (res a,[],la o (pre a))
  |none=>af
 |_,_=>af
def pj{α i:Type}(A:Arg α)(B:Arg i)(res:α->i->D)(pre:α->i->List Prop):dv:=λargs σ=>match args,σ with
 |[d,e],[]=>match A.arg d with
  |some (a,o)=>match B.arg e with
   |some (b,p)=>aa (res a b,[],la o (la p (pre a b)))
   |none=>af
  |none=>af
 |_,_=>af
def Fc{α i j:Type}(A:Arg α)(B:Arg i)(C:Arg j)(res:α->i->j->D)(pre:α->i->j->List Prop):dv:=λargs σ=>match args,σ with
 |[d,e,f],[]=>match A.arg d with
  |some (a,o)=>match B.arg e with
   |some (b,p)=>match C.arg f with
    |some (c,q)=>aa (res a b c,[],la o (la p (la q (pre a b c))))
    |none=>af
   |none=>af
  |none=>af
 |_,_=>af
section
variable {P:ar}{X:Cx P}{f:aJ}{α i j:Type}{A:Arg α}{B:Arg i}{C:Arg j}
def er.pS{res:α->D}{pre:α->List Prop}(h:∀a,az (pre a)->Ev X f [A.enc a] [] (res a) []):er X f (kL A res pre):=by
 intro args σ r σ' obs h1 ho;unfold kL at h1;split at h1
 .split at h1
  .rename_i d a o b;cases h1;rw[az.cat]at ho;exact(h a ho.2).args λs vs=>cp.imp (λ_ r=>A.ok b ho.1 r) (λ_ r=>r) vs
  .cases h1
 .cases h1
def er.tf{res:α->i->D}{pre:α->i->List Prop}(h:∀a b,az (pre a b)->Ev X f [A.enc a,B.enc b] [] (res a b) []):er X f (pj A B res pre):=by
 intro args σ r σ' obs h1 ho;unfold pj at h1;split at h1
 .split at h1
  .rename_i d e a o c;split at h1
   .rename_i b p g;cases h1;rw[az.cat,az.cat]at ho;exact(h a b ho.2.2).args λs vs=>cp.imp (λ_ r=>A.ok c ho.1 r) (cp.imp (λ_ r=>B.ok g ho.2.1 r) (λ_ r=>r)) vs
   .cases h1
  .cases h1
 .cases h1
def er.Lf{res:α->i->j->D}{pre:α->i->j->List Prop}(h:∀a b c,az (pre a b c)->Ev X f [A.enc a,B.enc b,C.enc c] [] (res a b c) []):er X f (Fc A B C res pre):=by
 intro args σ r σ' obs h1 ho;unfold Fc at h1;split at h1
 .split at h1
  .rename_i d e g a o k;split at h1
   .rename_i b p l;split at h1
    .rename_i c q m;cases h1;rw[az.cat,az.cat,az.cat]at ho;exact(h a b c ho.2.2.2).args λs vs=>cp.imp (λ_ r=>A.ok k ho.1 r) (cp.imp (λ_ r=>B.ok l ho.2.1 r) (cp.imp (λ_ r=>C.ok m ho.2.2.1 r) (λ_ r=>r))) vs
    .cases h1
   .cases h1
  .cases h1
 .cases h1
end
namespace R1
def pU(a:List D)(res:D):dv:=λargs σ=>match σ with|[]=>aa (res,[],[args=a])|_=>af
def rQ{X:Cx ag}{f:aJ}{a:List D}{res:D}(h:Ev X f a [] res []):er X f (pU a res):=by
 intro args σ r σ' obs he ho;unfold pU at he;split at he
 .cases he;have:args=a:=ho;subst this;exact h
 .cases he
def zh(a:List D)(σ0:List aR)(res:D)(σ1:List aR):dv:=λargs σ=>aa (res,σ1,[args=a,σ=σ0])
def C3{X:Cx ag}{f:aJ}{a:List D}{σ0 σ1:List aR}{res:D}(h:Ev X f a σ0 res σ1):er X f (zh a σ0 res σ1):=by intro args σ r σ' obs he ho;cases he;obtain⟨c,b⟩:args=a/\σ=σ0:=ho;subst c b;exact h
end R1
end Go.AM
namespace Go.AM.R1
section
variable {X:Cx ag}
def Lb(k:Int):Ev X 40 [dI k] [] (dB (b7 k)) []:=by
 refine Ev.bQ Tryz.func40 rfl λc=>?_;by_cases a:1<=k
 .by_cases b:k<=99
  .refine aX [(4,ab),(7,ab)] rfl ?_ (AK.bz rfl ?_)
   .simp[a,b]
   .simp[b7,a,b]
  .refine aX [(4,ab),(7,ae)] rfl ?_ (AK.bz rfl ?_)
   .simp[a];omega
   .simp[b7,a,b]
 .refine aX [(4,ae)] rfl ?_ (AK.bz rfl ?_)
  .simp;omega
  .simp[b7,a]
def t40:er X 40 (kL aI (λk=>dB (b7 k)) λ_=>[]):=.pS λk _=>Lb k
def A0{s:Bs}{i:Nat}(h:i<s.length):cj (s.take (i+1))=(cj (s.take i)&&eZ (s.getD i 0)):=by unfold cj;grind[List.take_add_one]
def pT{b:UInt8}:eZ b=ab↔97<=(b.toNat:Int)/\(b.toNat:Int)<=122:=by simp[eZ];omega
def xA{s:Bs}{i:Nat}(h:i<s.length)(b:eZ (s.getD i 0)=ae):cj s=ae:=by
 cases a:cj s with
 |false=>rfl
 |true =>
  have:=bC.1 a (s.getD i 0) (by grind);grind
def CX(s:Bs):Ev X 121 [dS s] [] (dB (cj s)) []:=by
 refine Ev.bQ Tryz.func121 rfl λg=>?_;have f:=g.str 0 rfl;refine bt rfl ay ?_;refine AK.xe (λi=>i<=s.length/\cj (s.take i)=ab) (λi:Nat=>[(0,dS s),(5,dI s.length),(6,dI i)]) (λ_=>[]) (λi=>s.length-i) 0 rfl (by simp) ⟨by omega,by simp[cj]⟩ rfl ?_;rintro i ⟨hi,a⟩;by_cases h:i<s.length
 .by_cases b:cT s i<97
  .refine aX [(7,ab),(12,ab)] rfl ?_ (AK.ir (cw.zero rfl ?_))
   .simp[-ak,h,cU,b]
   .have:eZ (s.getD i 0)=ae:=by
     cases c:eZ (s.getD i 0)with
     |false=>rfl
     |true=>have:=pT.1 c;unfold cT at b;omega
    simp[xA h this]
  .by_cases d:cT s i<=122
   .refine aX [(7,ab),(12,ae),(17,ae)] rfl ?_ (AK.again (i+1) rfl ?_ ?_ ?_ rfl)
    .simp[-ak,h,cU,b,d,bD];grind
    .simp
    .refine⟨by omega,?_⟩;rw[A0 h,a,fO];exact pT.2 (by unfold cT at b d;omega)
    .omega
   .refine aX [(7,ab),(12,ae),(17,ab)] rfl ?_ (AK.ir (cw.zero rfl ?_))
    .simp[-ak,h,cU,b];grind
    .have:eZ (s.getD i 0)=ae:=by
      cases c:eZ (s.getD i 0)with
      |false=>rfl
      |true=>have:=pT.1 c;unfold cT at d;omega
     simp[xA h this]
 .have e:i=s.length:=by omega
  subst e;refine aX [(7,ae)] rfl (by simp) (AK.leave rfl rfl ?_);refine bt rfl ay (AK.bz rfl ?_);rw[dq]at a;simp[a]
def VU:er X 121 (kL aS (λs=>dB (cj s)) λ_=>[]):=.pS λk _=>CX k
abbrev tb1:List (Nat×dv):=[(40,kL aI (λk=>dB (b7 k)) λ_=>[]),(121,kL aS (λs=>dB (cj s)) λ_=>[])]
def Zs:bL X tb1:=.cons t40 (.cons VU .nil)
def CY(p:Bs):Ev X 139 [dS p] [] (dB (bx p)) []:=by
 refine Ev.bQ Tryz.func139 rfl λc=>?_;by_cases a:1<=p.length
 .by_cases b:p.length<=8
  .refine aW Zs [(5,ab),(9,ab),(11,ab)] rfl ?_ (AK.bz rfl ?_)
   .simp;omega
   .simp[bx,a,b]
  .refine aW Zs [(5,ab),(9,ae),(11,ae)] rfl ?_ (AK.bz rfl ?_)
   .simp;omega
   .simp[bx,a,b]
 .refine aW Zs [(5,ae),(11,ae)] rfl ?_ (AK.bz rfl ?_)
  .simp;omega
  .simp[bx,a]
def t139:er X 139 (kL aS (λs=>dB (bx s)) λ_=>[]):=.pS λk _=>CY k
def CZ(n:Nat)(h:n<=4000000):Ev X 160 [dI n] [] (dI (cO n)) []:=by
 refine Ev.bQ Tryz.func160 rfl λd=>?_;by_cases b:n<1
 .refine aX [(5,ab),(9,ab)] rfl ?_ (AK.bz rfl ?_)
  .simp;omega
  .simp[cO,b]
 .by_cases c:8<n
  .refine aX [(5,ae),(8,ab)] rfl ?_ (AK.bz rfl ?_)
   .simp;omega
   .simp[cO,c]
  .refine aX [(5,ae),(8,ae)] rfl ?_ ?_
   .simp;omega
   have e:cO n=2∨cO n=4∨cO n=8:=by unfold cO;grind
   refine AK.xe (λi:Nat=>(i=2∨i=4∨i=8)/\i<=cO n) (λi:Nat=>[(0,dI n),(3,dI i)]) (λ_=>[]) (λi=>8-i) 2 rfl (by simp) ⟨by simp,by omega⟩ rfl ?_;rintro i ⟨hi,a⟩;by_cases h:i<n
   .refine aX [(12,ab)] rfl ?_ (AK.again (2*i) rfl ?_ ?_ ?_ rfl)
    .simp[bD];omega
    .simp;omega
    .unfold cO at a⊢;grind
    .omega
   .refine aX [(12,ae)] rfl (by simp;omega) (AK.leave rfl rfl ?_);refine bt rfl ay (AK.bz rfl ?_);have:i=cO n:=by unfold cO at a⊢;grind
    simp[this]
theorem E9(s:Bs)(b:UInt8):strip (s++[b])=if b=46 then strip s else s++[b]:=by unfold strip;grind[List.dropWhile_cons]
def xB{s:Bs}{n:Nat}(h:n<s.length):strip (s.take (n+1))=if s.getD n 0=46 then strip (s.take n)else s.take (n+1):=by grind[List.take_add_one,E9]
theorem C0(s:Bs):Ev X 232 [dS s,dU 46] [] (dS (strip s)) []:=by
 refine Ev.bQ Tryz.func232 rfl λi=>?_;have f:=i.str 0 rfl;refine bt rfl ay ?_;refine AK.xe (λn=>n<=s.length/\strip (s.take n)=strip s) (λn:Nat=>[(0,dS (s.take n)),(1,dU 46)]) (λ_=>[]) (λn=>n) s.length rfl (by simp) ⟨by omega,by simp⟩ rfl ?_;rintro n ⟨k,a⟩;cases n with
 |zero =>
  refine aX [(7,ae),(16,ae)] rfl ?_ (AK.leave rfl rfl ?_)
  .simp
  refine bt rfl ay (AK.bz rfl ?_);have:strip s=[]:=by rw[<-a];rfl
  simp[this]
 |succ n =>
  have g:(s.take (n+1)).length=n+1:=by grind
  have h:cT (s.take (n+1)) n=cT s n:=by simp[cT,ak,iX]
  have j:=xB (s:=s) (n:=n) (by omega);have b:((n:Int)+1-1).toNat=n:=by omega
  by_cases c:s.getD n 0=46
  .refine aX [(7,ab),(15,ab),(16,ab)] rfl ?_ (AK.again n rfl ?_ ?_ ?_ rfl)
   .have d:cT s n=46:=by unfold cT;rw[c];rfl
    simp[-ak,-List.length_take,g,cU,b,h,d,bD];omega
   .simp;show(s.take (n+1)).take _=_;grind
   .grind
   .omega
  .refine aX [(7,ab),(15,ae),(16,ae)] rfl ?_ (AK.leave rfl rfl ?_)
   .have d:cT s n≠46:=by unfold cT;intro e;exact c (ov.1 (by grind))
    simp[-ak,-List.length_take,g,cU,b,h,d,bD];omega
   refine bt rfl ay (AK.bz rfl ?_);rw[j,aY c]at a;simp[a]
def VV:dv:=λargs σ=>match args,σ with
 |[.e (.one (.c (.str s))),.e (.one (.c (.int .u8 46)))],[]=>aa (dS (strip s),[],[])
 |_,_=>af
def t232:er X 232 VV:=by intro args σ res σ' obs h _;unfold VV at h;grind[C0]
theorem O4(s:Bs):Ev X 216 [dS s,dS [46]] [] (dS (strip s)) []:=by
 refine Ev.bQ Tryz.func216 rfl λb=>?_;by_cases h:s=[]
 .subst h;refine aW (bL.cons t232 .nil) [(8,ab),(12,ab)] rfl ?_ (AK.bz rfl ?_)
  .simp
  .simp[strip]
 .refine aW (bL.cons t232 .nil) [(8,ae),(11,ae),(12,ae),(16,ab),(20,ab),(21,ab)] rfl ?_ (AK.bz rfl)
  .cases s with
   |nil=>grind
   |cons a r=>simp;decide
def SR:dv:=λargs σ=>match args,σ with
 |[.e (.one (.c (.str s))),.e (.one (.c (.str [46])))],[]=>aa (dS (strip s),[],[])
 |_,_=>af
def t216:er X 216 SR:=by intro args σ res σ' obs h _;unfold SR at h;grind[O4]
def uX{p:Bs}{i:Nat}(h:i<p.length):codeOf (p.take (i+1))=27*codeOf (p.take i)+(cT p i-97) % 256+1:=by unfold codeOf;rw[lC,br h];simp only[List.foldl_append,Option.toList_some,jC,List.foldl_nil,cT,ak,br h,ij]
def ki{p:Bs}(h:bx p=ab){i:Nat}(hi:i<=p.length):0<=codeOf (p.take i)/\codeOf (p.take i)<282429536481:=by simp only[bx,bR,a9]at h;obtain⟨a,q2⟩:=xC (p.take i) 0 1 0 (λb c=>gZ h.2 b (fM c)) (by omega) (by omega) (by omega);have:=Q3 (n:=(p.take i).length) (by grind);rw[Int.one_mul]at q2;exact⟨a,Int.lt_of_lt_of_le q2 this⟩
def xE{p:Bs}{i:Nat}(h:i<p.length):p.getD i 0∈p:=by grind
abbrev tb2:List (Nat×dv):=[(40,kL aI (λk=>dB (b7 k)) λ_=>[]),(139,kL aS (λs=>dB (bx s)) λ_=>[])]
def tJ:bL X tb2:=.cons t40 (.cons t139 .nil)
abbrev Zv(n:Int):D:=.fa [.one (.c (.int .i64 n)),.one (.c .iI)]
def Le(k:Int)(p:Bs)(hk:b7 k=ab)(b:bx p=ab):Ev X 92 [dI k,dS p] [] (Zv (dA k p)) []:=by
 refine Ev.bQ Tryz.func92 rfl λo=>?_;have a:=b;simp only[bx,bR,a9]at a;have d:=hk;simp only[b7,bR,a9]at d;refine aW tJ [(8,ae),(13,ae)] rfl (by simp[hk,b]) ?_;refine AK.xe (λi=>i<=p.length) (λi:Nat=>[(0,dI k),(1,dS p),(6,dI (codeOf (p.take i))),(19,dI p.length),(20,dI i)]) (λ_=>[]) (λi=>p.length-i) 0 rfl (by simp[codeOf]) (by omega) rfl ?_;intro i hi;by_cases h:i<p.length
 .have f:=ki b hi;have q:=ki b (i:=i+1) (by omega);have e:=uX h;refine aX [(21,ab)] rfl ?_ (AK.again (i+1) rfl ?_ ?_ ?_ rfl)
  .simp only[az,cU,bD];simp[-ak,h,cU];have g:=gZ a.2 (p.getD i 0) (xE h);have c:97<=cT p i/\cT p i<=122:=by unfold cT;omega
   omega
  .have g:=gZ a.2 (p.getD i 0) (xE h);have c:97<=cT p i/\cT p i<=122:=by unfold cT;omega
   have n:(cT p i-97) % 256=cT p i-97:=Int.emod_eq_of_lt (by omega) (by omega);rw[n]at e;simp[-ak,cU,e]
  .grind
  grind
 .have e:i=p.length:=by omega
  subst e;have f:=qM b;refine aX [(21,ae)] rfl (by simp) (AK.leave rfl rfl ?_);refine bt rfl ?_ (AK.bz rfl ?_)
  .rw[dq];have l:0<=codeOf p*(2*k+1):=Int.mul_nonneg f.1 (by omega);have j:codeOf p*(2*k+1)<=282429536481*199:=Int.mul_le_mul (by omega) (by omega) (by omega) (by omega);generalize codeOf p*(2*k+1)=m at l j;simp only[az,bD];simp;omega
  .rw[dq];refine az.cat.2 ⟨?_,az.cat.2 ⟨rfl,ay⟩⟩;show(_:Int)=_;rw[Int.mul_comm 7919 k];rfl
def t92:er X 92 (pj aI aS (λk p=>Zv (dA k p)) λk p=>[b7 k=ab,bx p=ab]):=.tf λk p h=>Le k p h.1 h.2
def Fb{P:ar}{o:au}{j:aq->D}{σ:List aR}{op:BinOp}{t ty:aj}{x:aq}(h:o.op=.binOp op t x (.const .nilIface) ty){c:Bool}{q:Array (String×aj)}(n:P.underlying t=aa (.interface q))(p:j x=.e (.one (.c .iI)))(r:j (.const .nilIface)=.e (.one (.c .iI)))(k:jm op ab=aa c):bM P o j σ (.e (.one (.c (.bool c)))) σ:=by
 refine .quiet λs m u l=>?_;have f:=l x;have g:=l (.const .nilIface);rw[p]at f;rw[r]at g;replace f:=e9 f;replace g:=e9 g;generalize b:m x=vx at f;generalize a:m (.const .nilIface)=vy at g;cases f;cases g;have i:(Op.equal t .nilIface .nilIface).run P s.w=.ok ab s.w:=by show(aZ (9999+1) t _ _).run P s.w=_;unfold aZ;simp[underlying,n]
 have d:∀es,(Op.equal t .nilIface .nilIface).events P s.w es=es:=λes=>by show(aZ (9999+1) t _ _).events P s.w es=es;unfold aZ;simp[underlying,n]
 cases op<;>simp only[jm,reduceCtorEq,dw]at k
 .subst k;exact⟨.bool ab,by simp[aw,h,b,a,eqGuard,binOp,i],Rd.bool,by simp[aw,h,b,a,eqGuard,binOp,i,d]⟩
 .subst k;exact⟨.bool ae,by simp[aw,h,b,a,eqGuard,binOp,i],Rd.bool,by simp[aw,h,b,a,eqGuard,binOp,i,d]⟩
def Il(k:Int)(p:Bs)(n:Int)(hk:b7 k=ab)(a:bx p=ab):Ev X 190 [dI k,dS p,dI n] [] (dB (dA k p==n)) []:=by
 refine Ev.bQ Tryz.func190 rfl λb=>?_;refine aW (bL.cons t92 .nil) [(17,ab)] rfl ?_ ?_
 .simp[hk,a]
 refine AK.law (Fb rfl Tryz.underlying57 rfl rfl rfl) rfl rfl ?_;refine aW (bL.cons t92 .nil) [(17,ab)] rfl ?_ (AK.bz rfl ?_)
 .rfl
 .rfl
def t190:er X 190 (Fc aI aS aI (λk p n=>dB (dA k p==n)) λk p _=>[b7 k=ab,bx p=ab]):=.Lf λk p n h=>Il k p n h.1 h.2
abbrev nY:dv:=kL aS (λp=>dS (eY p)) λ_=>[]
abbrev A1(r:Option Bs):D:=.fa [.one (.c (.str (r.getD []))),.one (.c (.bool r.isSome))]
def Fe(c:er X 126 nY)(b:Bs):Ev X 189 [dS b] [] (A1 (eH b)) []:=by
 refine Ev.bQ Tryz.func189 rfl λf=>?_;have e:bL X [(216,SR),(139,kL aS (λs=>dB (bx s)) λ_=>[]),(126,nY)]:=.cons t216 (.cons t139 (.cons c .nil));by_cases a:bx (strip b)=ab
 .by_cases d:eY (strip b)=b
  .refine aW e [(10,ae),(15,ae)] rfl ?_ (AK.bz rfl ?_)
   .simp[a,d]
   .simp[eH,a,d]
  .refine aW e [(10,ae),(15,ab)] rfl ?_ (AK.bz rfl ?_)
   .simp[a,d]
   .simp[eH,a,d]
 .refine aW e [(10,ab),(15,ab)] rfl ?_ (AK.bz rfl ?_)
  .simp[a]
  .simp[eH,a]
def VW(a:er X 126 nY):er X 189 (kL aS (λb=>A1 (eH b)) λ_=>[]):=.pS λb _=>Fe a b
def xF{b p:Bs}(h:eH b=aa p):bx p=ab:=by unfold eH at h;grind
abbrev Zw(x:bo):D:=UA.enc x
def Lg(c:er X 126 nY)(x:bo)(k:Int)(hk:b7 k=ab):Ev X 150 [Zw x,dI k] [] (A1 (chunk k x)) []:=by
 refine Ev.bQ Tryz.func150 rfl λg=>?_;have e:bL X [(189,kL aS (λb=>A1 (eH b)) λ_=>[]),(190,Fc aI aS aI (λk p n=>dB (dA k p==n)) λk p _=>[b7 k=ab,bx p=ab])]:=.cons (VW c) (.cons t190 .nil);cases a:eH x.2 with
 |none =>
  refine aW e [(16,ab),(23,ab)] rfl ?_ (AK.bz rfl ?_)
  .simp[a]
  .simp[chunk,a]
 |some p =>
  have f:=xF a;by_cases d:dA k p=x.1
  .refine aW e [(16,ae),(23,ae)] rfl ?_ (AK.bz rfl ?_)
   .simp[a,d,hk,f]
   .simp[chunk,a,d,hk]
  .refine aW e [(16,ae),(23,ab)] rfl ?_ (AK.bz rfl ?_)
   .simp[a,d,hk,f]
   .simp[chunk,a,d,hk]
def Lh(a:er X 126 nY):er X 150 (pj UA aI (λx k=>A1 (chunk k x)) λ_ k=>[b7 k=ab]):=.tf λx k h=>Lg a x k h
def SV(x:bo)(n:Int):Ev X 212 [Zw x,.e (.one (.c (.rp [.int .i64 n])))] [] (dB (x.1==n)) []:=by refine Ev.bQ Tryz.func212 rfl λa=>?_;exact bt rfl ay (AK.bz rfl)
def SW:dv:=λargs σ=>match args,σ with
 |[.e (.agg [.c (.int .i64 a0),.c (.str a1)]),.e (.one (.c (.rp [.int .i64 n])))],[]=>aa (dB (a0==n),[],[a1=a1])
 |_,_=>af
def t212:er X 212 SW:=by
 intro args σ res σ' obs h c;unfold SW at h;split at h
 .rename_i b a n;cases h;exact SV (b,a) n
 grind
abbrev Lj(n:Int):D:=.e (.one (.c (.fn (.func 212) [] [.rp [.int .i64 n]])))
def A2(l:List bo)(n:Int):Int:=match l.findIdx? (λx=>x.1==n)with|some i=>i|none=>-1
def O6{t:List bo}{n:Int}{i:Nat}(hi:i<t.length)(h:(t.getD i (0,[])).1=n)(a:∀j,j<i->(t.getD j (0,[])).1≠n):A2 t n=i:=by
 have:t.findIdx? (λf=>f.1==n)=aa i:=by
  rw[ru];refine⟨hi,?_,λj b=>?_⟩
  .grind
  grind
 rw[A2,this]
def Im{t:List bo}{n:Int}(a:∀j,j<t.length->(t.getD j (0,[])).1≠n):A2 t n=-1:=by
 have:t.findIdx? (λf=>f.1==n)=af:=by grind[List.getElem_of_mem]
 rw[A2,this]
def O7(t:List bo)(n:Int):Ev X 211 [eg.sl t,Lj n] [] (dI (A2 t n)) []:=by
 refine Ev.bQ Tryz.func211 rfl λe=>?_;have c:=e.sl 0 rfl;have b:bL X [(212,SW)]:=.cons t212 .nil;refine b8 b rfl ay ?_;refine AK.kg (λi=>i<=t.length/\∀j,j<i->(t.getD j (0,[])).1≠n) (λi:Nat=>[(0,eg.sl t),(1,Lj n),(7,dI t.length),(8,dI i)]) (λ_=>[]) (λi=>t.length-i) 0 rfl ?_ rfl ay ⟨by omega,by omega⟩ ?_
 .simp
 rintro i ⟨hi,a⟩;by_cases h:i<t.length
 .by_cases d:(t.getD i (0,[])).1=n
  .refine aW b [(9,ab),(16,ab)] rfl ?_ (AK.ir (cw.zero rfl ?_))
   .simp only[az,cf];grind
   .simp[O6 h d a]
  .refine aW b [(9,ab),(16,ae)] rfl ?_ (AK.gb (i+1) rfl ?_ rfl ay ?_ ?_)
   .simp only[az,cf];exact⟨by simp only[bD];omega,ay,eD.2 d,by omega,by omega,dc (by omega)⟩
   .simp
   .grind
   .omega
 .refine aW b [(9,ae)] rfl (by simp;omega) (AK.leave rfl rfl ?_);refine b8 b rfl ay (AK.bz rfl ?_);simp[Im (λj f=>a j (by omega))]
def SX:dv:=λargs σ=>match args,σ with
 |[d,.e (.one (.c (.fn (.func 212) [] [.rp [.int .i64 n]])))],[]=>match ky 2 d with
  |none=>af
  |some (m,es)=>aa (dI (A2 (eg.list m es) n),[],[eg.fits m es])
 |_,_=>af
def t211:er X 211 SX:=by
 intro args σ res σ' obs h a;unfold SX at h;split at h
 .rename_i d n;split at h
  .cases h
  rename_i m es hd;cases h;exact(O7 _ n).args (λ_ vs=>cp.imp (λ_=>eg.jH hd a) (cp.imp (λ_ r=>r) (λ_ r=>r)) vs)
 grind
def Ff(t:List bo)(n:Int):(A2 t n=-1/\t.find? (λx=>x.1==n)=af)∨∃i:Nat,i<t.length/\A2 t n=i/\t.find? (λx=>x.1==n)=aa (t.getD i (0,[])):=by unfold A2;grind[List.findIdx?_eq_some_iff_getElem,List.find?_eq_some_iff_getElem]
def Fg(a:er X 126 nY)(k:Int)(p:bJ)(n:Int)(hk:b7 k=ab):Ev X 179 [dI k,Lk p,dI n] [] (A1 (dY k p n)) []:=by
 refine Ev.bQ Tryz.func179 rfl λg=>?_;have f:bL X [(211,SX),(150,pj UA aI (λx k=>A1 (chunk k x)) λ_ k=>[b7 k=ab])]:=.cons t211 (.cons (Lh a) .nil);have c:eg.list p.2.length (eg.fn p.2)=p.2:=eg.list_fn _;refine oK [] 7 rfl ay ?_;refine AK.freeze 5 1 rfl rfl rfl ?_;rcases Ff p.2 n with⟨b,d⟩|⟨i,hi,b,d⟩
 .refine aW f [(14,ab)] rfl ?_ (AK.bz rfl ?_)
  .simp only[az,c,b];exact⟨rfl,eg.aO _⟩
  .simp[dY,d]
 .refine aW f [(14,ae)] rfl ?_ (AK.bz rfl ?_)
  .simp only[az,c,b];exact⟨hk,by omega,by omega,iC (by omega),eg.aO _⟩
  .have e:dY k p n=chunk k (p.2.getD i (0,[])):=by simp only[dY,d]
   rw[e,c,b];simp only[cf];exact az.cat.2 ⟨rfl,az.cat.2 ⟨rfl,ay⟩⟩
def SY(a:er X 126 nY):er X 179 (Fc aI (Fh eg) aI (λk p n=>A1 (dY k p n)) λk _ _=>[b7 k=ab]):=.Lf λk p n h=>Fg a k p n h
abbrev dQ(n:Int):D:=.e (.one (.c (.int .u64 n)))
def _root_.Go.AM.AW.G6{P:ar}{X:Cx P}{N:Nat}{Q:Post}{φ:Fr}{σ:List aR}{x y:Code}(h:AW X N y Q φ σ):AW X N (.cond (.const (.bool ae)) x y) Q φ σ:=by intro s a f hh b k cs S i c;refine .ctl hh rfl (λ_=>vL (t:=ae) rfl) λg h1=>?_;exact h g a (f.rely h1 hh) (hh.rely h1) b k cs S i λe φ' σ' s' a' q d j st=>c e φ' σ' s' a' q d j (h1.stepW.trans st)
def _root_.Go.AM.AK.G6{P:ar}{X:Cx P}{N:Nat}{Qf:Post}{K:List It}{φ:Fr}{σ:List aR}{x y:Code}(h:AK X N Qf (.code y::K) .normal φ σ):AK X N Qf (.code (.cond (.const (.bool ae)) x y)::K) .normal φ σ:=AW.G6 h
def E7{P:ar}{o:au}{n:aq->D}{σ:List aR}{op:BinOp}{t ty:aj}{x y:aq}{k p:IntKind}{a b:Int}(c:Int)(h:o.op=.binOp op t x y ty)(u:n x=.e (.one (.c (.int k a))))(v:n y=.e (.one (.c (.int p b))))(m:bD k c)(d:∀w,(binOp op t (.int k a) (.int p b)).run P w=.ok (.int k c) w)(l:∀w,(binOp op t (.int k a) (.int p b)).events P w #[]=#[]):
  bM P o n σ (.e (.one (.c (.int k c)))) σ:=by refine .quiet λs r z q=>?_;have g:=q x;have i:=q y;rw[u]at g;rw[v]at i;replace g:=e9 g;replace i:=e9 i;generalize j:r x=vx at g;generalize f:r y=vy at i;cases g;cases i;exact⟨.int k c,by simp only[aw,h,bT,j,f,gY,b5,d,dx],.int m,by simp[aw,h,j,f,gY,jZ,d,l]⟩
def Fj:Ev X 229 [dQ 1,dQ 2] [] (.fa [.one (.c (.int .u64 0)),.one (.c (.int .u64 2))]) []:=by refine Ev.bQ Tryz.func229 rfl λa=>?_;exact dm rfl (by simp[bD]) (AK.bz rfl)
def Fl:Ev X 229 [dQ 1,dQ 3] [] (.fa [.one (.c (.int .u64 0)),.one (.c (.int .u64 3))]) []:=by refine Ev.bQ Tryz.func229 rfl λa=>?_;exact dm rfl (by simp[bD]) (AK.bz rfl)
def VX:dv:=λargs σ=>match args,σ with
 |[.e (.one (.c (.int .u64 1))),.e (.one (.c (.int .u64 c)))],[]=>aa (.fa [.one (.c (.int .u64 0)),.one (.c (.int .u64 c))],[],[c=2∨c=3])
 |_,_=>af
def t229:er X 229 VX:=by
 intro args σ res σ' obs h a;unfold VX at h;split at h
 .cases h;rcases a with rfl|rfl
  .exact Fj
  .exact Fl
 grind
def S0(c:Int)(a:c=2∨c=3):Ev X 204 [dQ 1,dQ c] [] (.fa [.one (.c (.int .u64 0)),.one (.c (.int .u64 c))]) []:=by
 refine Ev.bQ Tryz.func204 rfl λb=>?_;refine b8 (bL.cons t229 .nil) rfl ay ?_;refine AK.G6 ?_;refine b8 (bL.cons t229 .nil) rfl ?_ (AK.bz rfl)
 .simp[a]
def SQ:dv:=λargs σ=>match args,σ with
 |[.e (.one (.c (.int .u64 1))),.e (.one (.c (.int .u64 c)))],[]=>aa (.fa [.one (.c (.int .u64 0)),.one (.c (.int .u64 c))],[],[c=2∨c=3])
 |_,_=>af
def t204:er X 204 SQ:=by
 intro args σ res σ' obs h a;unfold SQ at h;split at h
 .cases h;exact S0 _ a
 grind
def l3:∀(l:List UInt8)(c:UInt8),Lib.indexByte l c<l.length∨Lib.indexByte l c=-1
 |[],c=>.inr (by rw[Lib.indexByte.eq_def])
 |b::l,c=>by have a:=l3 l c;grind[Lib.indexByte.eq_def]
set_option maxRecDepth 20000 in
theorem Bx(s:Bs)(c:UInt8):Ev X 224 [dS s,dU c.toNat] [] (dI (Lib.indexByte s c)) []:=by
 refine Ev.bQ Tryz.func224 rfl λq=>?_;have r:=q.str 0 rfl;refine bt rfl ay ?_;refine AK.one (x:=dI (Lib.indexByte s c)) (σ':=[]) ?_ rfl ?_
 .refine OA.kT (λ_ _ _ _=>dK (by rfl)) ?_;refine bM.oz λst ρ z k=>?_;have n:=e9 (k (.tmp 5));have o:=e9 (k (.tmp 6));generalize i:ρ (.tmp 5)=v1 at n;generalize h:ρ (.tmp 6)=v2 at o;cases n with
  |str e1 l1 =>
  cases o with
  |int l2 =>
  have j:ρ (.func 237)=.func (.func 237) #[] #[]:=by
   have:=e9 (k (.func 237));generalize ρ (.func 237)=v at this;cases this with
   |fn fs cs a b y t c1 c2 d1 d2 =>
    grind
  have f:(callFunc 237 #[.string ‹ByteArray›,.int .u8 c.toNat]).run ag st.w=.ok (.value (.int .i64 (Lib.indexByte s c))) st.w:=by rw[run_callFunc_extern Tryz.func237 (by kernel_rfl) (by kernel_rfl) (by kernel_rfl) (e:=Extern.BytealgIndexByte.indexByte) (by kernel_rfl),Lib.run_indexByteString];subst e1;simp
  have l:di ag (Extern.BytealgIndexByte.indexByte #[.string ‹ByteArray›,.int .u8 c.toNat]):=by
   refine di.bind (m:=Extern.Bytes.bytesOf (.string ‹ByteArray›)) (λ_ _=>rfl) λb=>di.bind (m:=Extern.Bytes.asByte (.int .u8 c.toNat)) (λ_ _=>?_) λd=>?_
   .simp[Extern.Bytes.asByte]
   .skip
    split<;>exact .pure
  have g:=me Tryz.func237 (by kernel_rfl) (by kernel_rfl) (by kernel_rfl) (e:=Extern.BytealgIndexByte.indexByte) (by kernel_rfl) _ l st.w #[];refine⟨.int .i64 (Lib.indexByte s c),?_,Rd.int ?_,?_⟩
  rotate_left 2
  .intro u p;simp[aw,resolve,Deferred.ofValue,invoke,i,h,j,g]at p;subst p;exact .inr ⟨_,rfl⟩
  .simp[aw,resolve,Deferred.ofValue,invoke,i,h,j,f]
  .have B:=Lib.indexByte_ge s c;have A:=l3 s c;simp only[bD];omega
 .exact bt rfl ay (AK.bz rfl)
def O5(a:Int)(b:C)(n:Int):Ev X 52 [.e (.agg [.c (.int .i64 a),.c b]),.e (.one (.c (.rp [.int .i64 n])))] [] (dB (a==n)) []:=by refine Ev.bQ Tryz.func52 rfl λd=>?_;exact bt rfl ay (AK.bz rfl)
def Zt:dv:=λargs σ=>match args,σ with
 |[.e (.agg [.c (.int .i64 a0),.c b]),.e (.one (.c (.rp [.int .i64 n])))],[]=>aa (dB (a0==n),[],[])
 |_,_=>af
def t52:er X 52 Zt:=by
 intro args σ res σ' obs h a;unfold Zt at h;split at h
 .cases h;exact O5 _ _ _
 .cases h
abbrev Q2(n:Int):D:=.e (.one (.c (.fn (.func 52) [] [.rp [.int .i64 n]])))
def rl(l:List fe)(n:Int):Int:=match l.findIdx? (λx=>x.1==n)with|some i=>i|none=>-1
def Lc{t:List fe}{n:Int}{i:Nat}(hi:i<t.length)(h:(t.getD i (0,[])).1=n)(a:∀j,j<i->(t.getD j (0,[])).1≠n):rl t n=i:=by
 have:t.findIdx? (λf=>f.1==n)=aa i:=by
  rw[ru];refine⟨hi,?_,λj c=>?_⟩
  .simpa[ak,br hi]using h
  .have b:j<t.length:=by omega
   simpa[ak,br b]using a j c
 rw[rl,this]
def Fa{t:List fe}{n:Int}(a:∀j,j<t.length->(t.getD j (0,[])).1≠n):rl t n=-1:=by
 have:t.findIdx? (λf=>f.1==n)=af:=by rw[zW];intro f c;obtain⟨j,b,rfl⟩:=dG c;simpa[ak,br b]using a j b
 rw[rl,this]
def Ld(t:List fe)(n:Int):Ev X 51 [fi.sl t,Q2 n] [] (dI (rl t n)) []:=by
 refine Ev.bQ Tryz.func51 rfl λf=>?_;have e:=f.sl 0 rfl;have b:bL X [(52,Zt)]:=.cons t52 .nil;refine b8 b rfl ay ?_;refine AK.kg (λi=>i<=t.length/\∀j,j<i->(t.getD j (0,[])).1≠n) (λi:Nat=>[(0,fi.sl t),(1,Q2 n),(7,dI t.length),(8,dI i)]) (λ_=>[]) (λi=>t.length-i) 0 rfl ?_ rfl ay ⟨by omega,by omega⟩ ?_
 .simp
 rintro i ⟨hi,a⟩;by_cases h:i<t.length
 .by_cases d:(t.getD i (0,[])).1=n
  .refine aW b [(9,ab),(16,ab)] rfl ?_ (AK.ir (cw.zero rfl ?_))
   .simp only[az,cf];exact⟨gp.2 d,by omega,by omega,dc (by omega)⟩
   .simp[Lc h d a]
  .refine aW b [(9,ab),(16,ae)] rfl ?_ (AK.gb (i+1) rfl ?_ rfl ay ?_ ?_)
   .simp only[az,cf];exact⟨by simp only[bD];omega,eD.2 d,by omega,by omega,dc (by omega)⟩
   .simp
   .refine⟨by omega,λj c=>?_⟩;rcases vC.1 c with c|rfl
    .exact a j c
    .exact d
   .omega
 .refine aW b [(9,ae)] rfl (by simp;omega) (AK.leave rfl rfl ?_);refine b8 b rfl ay (AK.bz rfl ?_);simp[Fa (λj c=>a j (by omega))]
def Zu:dv:=λargs σ=>match args,σ with
 |[d,.e (.one (.c (.fn (.func 52) [] [.rp [.int .i64 n]])))],[]=>match ky 2 d with
  |none=>af
  |some (m,es)=>aa (dI (rl (fi.list m es) n),[],[fi.fits m es])
 |_,_=>af
def t51:er X 51 Zu:=by
 intro args σ res σ' obs h a;unfold Zu at h;split at h
 .rename_i d n;split at h
  .cases h
  rename_i m es hd;cases h;exact(Ld _ n).args (λ_ vs=>cp.imp (λ_=>fi.jH hd a) (cp.imp (λ_ r=>r) (λ_ r=>r)) vs)
 .cases h
def C1(t:List fe)(n:Int):(rl t n=-1/\t.find? (λx=>x.1==n)=af)∨∃i:Nat,i<t.length/\rl t n=i/\t.find? (λx=>x.1==n)=aa (t.getD i (0,[])):=by
 unfold rl;cases h:t.findIdx? (λx=>x.1==n)with
 |none =>
  refine .inl ⟨rfl,?_⟩;rw[zW]at h;exact qj.2 λx b=>by simp[h x b]
 |some i =>
  rw[ru]at h;obtain⟨hi,d,c⟩:=h;refine .inr ⟨i,hi,rfl,?_⟩;rw[zV];refine⟨?_,i,hi,?_,λj a=>?_⟩
  .simpa[ak,br hi]using d
  .simp[ak,br hi]
  .have:=c j a;simpa using this
def Hl(b:Nat->Int):Nat->List C:=λi=>[.int .u8 (b i)]
def Bytes(b:Nat->Int):Prop:=∀i,0<=b i/\b i<=255
abbrev lu(m:Nat)(b:Nat->Int)(k:Int):aR:=.cells 104 [.c (.sl ae 1 m (Hl b)),.c (.int .i64 k)]
def ef.rn{ι:Type}{f:aJ}{fn:Func}{c:Code}{args:List D}{σ:List aR}{σ':ι->List aR}{res:ι->D}(g:Tryz.prog.funcs[f]?=aa fn)(b:(fn.name== "runtime.NumGoroutine")=ae)(i:fn.body=aa c)(a:bA args.length fn.ntmps=ab)(h:Fits args σ->AK X fn.ntmps (λe φ σ1=>∃j,cw fn σ.length (res j) (σ' j) e φ σ1) [.code c] .normal (ji 0 args) σ):ef X f args σ res σ' :=
 ef.AH g b i a λd=>AW.top (AK.of_code (h d))
def AK.n7{ι:Type}{fn:Func}{a:Nat}{res:ι->D}{σ':ι->List aR}{N:Nat}{φ:Fr}{σ:List aR}{K:List It}(i:ι)(k:AK X N (cw fn a (res i) (σ' i)) K .normal φ σ):AK X N (λe φ σ1=>∃j,cw fn a (res j) (σ' j) e φ σ1) K .normal φ σ :=
 AK.iU (λ_ _ _ q=>⟨i,q⟩) k
def mG(m:Nat)(b:Nat->Int)(k:Nat)(n:Int):Int :=
 if m=0 then 0 else if k<m then b k % n else
  ((b ((k:Int) % m).toNat*131+b (((k:Int)*7+3) % m).toNat*1117+k*29+(k:Int) / m*53).toNat ^^^ ((b ((k:Int) % m).toNat*131+b (((k:Int)*7+3) % m).toNat*1117+k*29+(k:Int) / m*53) / 64).toNat:Nat) % n
set_option maxRecDepth 20000 in
def DF(m:Nat)(b:Nat->Int)(g:Bytes b)(k:Nat)(n:Int)(hk:k<=4000000)(r:m<=1048576)(z:1<=n/\n<=4000000):
  Ev X 21 [.e (.one (.ptr 0 0)),dI n] [lu m b k] (dI (mG m b k n)) [lu m b (k+1)]:=by
 refine Ev.bQ Tryz.func21 rfl λh=>?_;have d:∀j,j<([lu m b k]:List aR).length->([0]:List Nat)[j]?=aa j:=λj o=>by grind
 by_cases f:m=0
 .subst f;refine aX [(17,ae),(24,ab)] rfl ?_ (AK.dk [0] rfl ?_ rfl rfl rfl d)
  .simp[bD];omega
  .simp[mG]
 have c:((k:Int)+1-1)=k:=by omega
 have l:((k:Int)+1-1).toNat=k:=by omega
 have i:=g k;by_cases t:(k:Int)<m
 .refine aX [(17,ae),(24,ae),(36,ab)] rfl ?_ (AK.dk [0] rfl ?_ rfl rfl rfl d)
  .simp only[az,c,cf,a9,bS,eD,bD];omega
  .have:k<m:=by omega
   simp[mG,f,this]
 .refine bO [(17,ae),(24,ae),(36,ae)] rfl ?_ (AK.dk [0] rfl ?_ rfl rfl rfl d)
  .simp only[az,c,bS,eD,bD];have a:(0:Int)<m:=by omega
   have x:=qq (k:Int) (by omega:(m:Int)≠0);have q:=qk (k:Int) a;have v1:=qq ((k:Int)*7+3) (by omega:(m:Int)≠0);have y:=qk ((k:Int)*7+3) a;have w1:0<=(k:Int) / m:=Int.ediv_nonneg (by omega) (by omega);have w2:(k:Int) / m<=k:=Int.ediv_le_self _ (by omega);generalize(k:Int) % m=u at *;generalize((k:Int)*7+3) % m=v at *;generalize(k:Int) / m=w at *;have p:=g u.toNat;have s:=g v.toNat;grind
  .have:¬k<m:=by omega
   simp[mG,f,this,c]
def u9(m:Nat)(b:Nat->Int)(k:Nat)(n:Int)(a:1<=n):0<=mG m b k n/\mG m b k n<n:=by
 unfold mG;split
 .omega
 .split
  .exact⟨qq _ (by omega),qk _ (by omega)⟩
  .exact⟨qq _ (by omega),qk _ (by omega)⟩
def gF(m:Nat)(b:Nat->Int)(d:Bytes b)(k:Nat)(n:Int)(hk:k<=4000000)(c:m<=1048576)(a:1<=n/\n<=4000000):
  ef (ι:={v:Int // 0<=v/\v<n}) X 21 [.e (.one (.ptr 0 0)),dI n] [lu m b k] (λv=>dI v.1) (λ_=>[lu m b (k+1)]):=by have h:=DF (X:=X) m b d k n hk c a;exact⟨h.1,λs vs hr hh S cs hS=>h.2 s vs hr hh S cs (hS ⟨_,u9 m b k n a.1⟩)⟩
def TR(es:Nat->List C):Nat->Int:=λi=>xI (es i) 0
def Z5:dv:=λargs σ=>match args,σ with
 |[.e (.one (.ptr 0 0)),.e (.one (.c (.int .i64 n)))],[.cells 104 [.c (.sl ae 1 m es),.c (.int .i64 k)]] =>
  aa (dI (mG m (TR es) k.toNat n),[lu m (TR es) (k+1)],[k=k.toNat,es=Hl (TR es),Bytes (TR es),k<=4000000,m<=1048576,1<=n,n<=4000000])
 |_,_=>af
def t21:er X 21 Z5:=by
 intro args σ res σ' obs h b;unfold Z5 at h;split at h
 .rename_i n m es k;cases h;obtain⟨f,i,d,g,c,a,e⟩:=b;have:=DF (X:=X) m (TR es) d k.toNat n (by omega) c ⟨a,e⟩;grind
 grind
def Bw:∀j,j<1->([0]:List Nat)[j]?=aa j:=λj a=>by grind
set_option maxRecDepth 20000 in
def Mt(m:Nat)(b:Nat->Int)(f:Bytes b)(k:Nat)(hk:k<=4000000)(c:m<=1048576)(l:List Bs)(g:1<=l.length/\l.length<=1000):
  ef (ι:={p:Bs // p∈l}) X 109 [.e (.one (.ptr 0 0)),cS.sl l] [lu m b k] (λp=>dS p.1) (λ_=>[lu m b (k+1)]):=by
 refine ef.rn Tryz.func109 rfl rfl rfl λd=>?_;refine bt rfl ay ?_;refine AK.cP (gF m b f k l.length hk c (by omega)) [0] rfl (λ_=>rfl) ?_;rintro⟨v,v0,v1⟩;refine bt rfl ?_ ?_
 .simp;omega
 have a:l.getD v.toNat cS.cd∈l:=by grind
 refine AK.n7 ⟨l.getD v.toNat cS.cd,a⟩ (AK.dk [0] rfl ?_ rfl rfl rfl Bw);simp
def Mv:List Bs:=[[],[102],[97,47],[97,98],[97,47,98,47,99],[47,97]]
def Mw:List Bs:=[[97],[98],[99,47,97],[99,47,98],[100,47,97],[101],[97,47,98],[100]]
set_option maxRecDepth 20000 in
def wi(m:Nat)(b:Nat->Int)(d:Bytes b)(k:Nat)(hk:k<=100000)(c:m<=1048576):
  ef (ι:={p:Bs // p.length<=8}) X 60 [.e (.one (.ptr 0 0))] [lu m b k] (λp=>dS p.1) (λ_=>[lu m b (k+1+1)]):=by
 refine ef.rn Tryz.func60 rfl rfl rfl λf=>?_;refine bt rfl ay ?_;refine AK.cP (gF m b d k 40 (by omega) c (by omega)) [0] rfl (λ_=>rfl) ?_;rintro⟨v,v0,v1⟩;by_cases h:v=0
 .refine aX [(5,ab)] rfl ?_ ?_
  .simp[h]
  have:=Mt (X:=X) m b d (k+1) (by omega) c Mv (by decide);refine AK.j4 this [0] rfl rfl rfl rfl ?_ rfl rfl rfl (λ_=>rfl) rfl (λ_=>rfl) rfl ?_
  .refine⟨rfl,λi hi=>?_⟩;rcases i with _|_|_|_|_|_|i<;>first|rfl|omega
  rintro⟨p,a⟩;refine bt rfl ay (AK.n7 ⟨p,(by decide:∀p∈Mv,p.length<=8) p a⟩ (AK.dk [0] rfl ?_ rfl rfl rfl Bw));simp
 .refine aX [(5,ae)] rfl ?_ ?_
  .simp[h]
  have:=Mt (X:=X) m b d (k+1) (by omega) c Mw (by decide);refine AK.j4 this [0] rfl rfl rfl rfl ?_ rfl rfl rfl (λ_=>rfl) rfl (λ_=>rfl) rfl ?_
  .refine⟨rfl,λi hi=>?_⟩;rcases i with _|_|_|_|_|_|_|_|i<;>first|rfl|omega
  rintro⟨p,a⟩;refine bt rfl ay (AK.n7 ⟨p,(by decide:∀p∈Mw,p.length<=8) p a⟩ (AK.dk [0] rfl ?_ rfl rfl rfl Bw));simp
def words:List Bs:=[[97,98,99],[104,101,108,108,111],[119,111,114,108,100],[97,97,97,97],[107,101,101,112],[122,122],[98,97,99,107,117,112],[113]]
abbrev WO(k:Nat):={q:Bs×Nat // q.1.length<=100000/\k<=q.2/\q.2<=k+60}
def Ht(s:Bs)(n:Int)(a:s.length<=10)(i:0<=n/\n<=100):ef (ι:={p:Bs // p.length<=100000}) X 110 [dS s,dI n] [] (λp=>dS p.1) (λ_=>[]):=by
 refine ef.rn Tryz.func110 rfl rfl rfl λd=>?_;refine bt rfl ay ?_;refine AK.kg (λx:Nat×Bs×Bs=>x.1<=100/\x.2.2.length+x.2.1.length*x.1<=1010) (λx=>[(0,dS x.2.1),(1,dI x.1),(5,dS x.2.2)]) (λ_=>[]) (λx=>x.1) (n.toNat,s,[]) rfl ?_ rfl ay ⟨by grind,?_⟩ ?_
 .simp;omega
 .have:s.length*n.toNat<=10*100:=Nat.mul_le_mul a (by omega);grind
 rintro⟨k,t,out⟩ ⟨c,f⟩;simp only at c f;by_cases hk:0<k
 .have g:t.length<=t.length*k:=vD _ hk;have h:((k:Int) / 2)=((k / 2:Nat):Int):=by omega
  by_cases j:k % 2=1
  .have b:(t++t).length*(k / 2)+t.length=t.length*k:=by
    have e:k=2*(k / 2)+1:=by omega
    grind
   refine aX [(7,ab),(10,ab)] rfl ?_ (AK.gb (k / 2,t++t,out++t) rfl ?_ rfl ay ?_ ?_)
   .simp[hk];omega
   .simp
   .grind
   grind
  .have b:(t++t).length*(k / 2)=t.length*k:=by
    have e:k=2*(k / 2):=by omega
    grind
   refine aX [(7,ab),(10,ae)] rfl ?_ (AK.gb (k / 2,t++t,out) rfl ?_ rfl ay ?_ ?_)
   .simp[hk];omega
   .simp
   .grind
   grind
 .obtain rfl:k=0:=by omega
  refine aX [(7,ae)] rfl (by simp) (AK.leave rfl rfl ?_);exact bt rfl ay (AK.n7 ⟨out,by omega⟩ (AK.bz rfl))
set_option maxRecDepth 20000 in
def Hu(m:Nat)(b:Nat->Int)(c:Bytes b)(k:Nat)(hk:k<=100000)(d:m<=1048576):
  ef (ι:=WO k) X 61 [.e (.one (.ptr 0 0))] [lu m b k] (λq=>dS q.1.1) (λq=>[lu m b q.1.2]):=by
 refine ef.rn Tryz.func61 rfl rfl rfl λt=>?_;refine bt rfl ay ?_;refine AK.cP (gF m b c k 5 (by omega) d (by omega)) [0] rfl (λ_=>rfl) ?_;rintro⟨v,v0,v1⟩;refine bt rfl ay ?_;refine AK.cE 1 (λs:Nat×Bs×Nat=>s.1<=4/\s.2.1.length+6*s.1<=24/\k<=s.2.2/\s.2.2+s.1<=k+5) (λs=>[(0,.e (.one (.ptr 0 0))),(4,dI s.1),(3,dS s.2.1)]) (λs=>[lu m b s.2.2]) (λs=>s.1) (v.toNat,[],k+1) rfl ?_ rfl ?_ rfl ⟨by omega,by grind,by simp,by grind⟩ ?_
 .simp;omega
 .simp
 rintro⟨n,s,k1⟩ ⟨F,C,B,G⟩;simp only at F C B G;by_cases j:0<n
 .refine aX [(9,ab)] rfl ?_ ?_
  .simp[j]
  have:=Mt (X:=X) m b c k1 (by omega) d words (by decide);refine AK.j4 this [0] rfl rfl rfl rfl ?_ rfl rfl rfl (λ_=>rfl) rfl (λ_=>rfl) rfl ?_
  .refine⟨rfl,λi hi=>?_⟩;rcases i with _|_|_|_|_|_|_|_|i<;>first|rfl|omega
  rintro⟨p,g⟩;have D:p.length<=6:=(by decide:∀p∈words,p.length<=6) p g;refine bt rfl ?_ (AK.aQ (n-1,s++p,k1+1) rfl ?_ ?_ ?_ ?_)
  .simp[bD];omega
  .simp;omega
  .simp
  .grind
  grind
 .obtain rfl:n=0:=by omega
  refine aX [(9,ae)] rfl (by simp) (AK.leaveD rfl rfl ?_);refine bt rfl ay ?_;refine AK.cP (gF m b c k1 4 (by omega) d (by omega)) [0] rfl (λ_=>rfl) ?_;rintro⟨u,J,K⟩;by_cases l:u=0
  .refine aX [(19,ab)] rfl (by simp[l]) ?_;refine AK.cP (gF m b c (k1+1) 12 (by omega) d (by omega)) [0] rfl (λ_=>rfl) ?_;rintro⟨w,w0,w1⟩;refine bt rfl ay ?_;refine AK.cE 1 (λs:Nat×Bs×Nat=>s.1<=11/\s.2.1.length+s.1<=36/\k<=s.2.2/\s.2.2+s.1<=k+20) (λs=>[(0,.e (.one (.ptr 0 0))),(5,dI s.1),(3,dS s.2.1)]) (λs=>[lu m b s.2.2]) (λs=>s.1) (w.toNat,s,k1+2) rfl ?_ rfl ?_ rfl ⟨by omega,by grind,by grind,by grind⟩ ?_
   .simp;omega
   .simp;omega
   rintro⟨n,s2,f⟩ ⟨r,z,A,H⟩;simp only at r z A H;by_cases j:0<n
   .refine aX [(23,ab)] rfl ?_ ?_
    .simp[j]
    refine AK.cP (gF m b c f 26 (by omega) d (by omega)) [0] rfl (λ_=>rfl) ?_;rintro⟨x,I,L⟩;refine bt rfl ?_ (AK.aQ (n-1,s2++[UInt8.ofNat (97+x).toNat],f+1) rfl ?_ ?_ ?_ ?_)
    .simp[bD];omega
    .simp;omega
    .simp
    .grind
    grind
   .obtain rfl:n=0:=by omega
    refine aX [(23,ae)] rfl (by simp) (AK.leaveD rfl rfl ?_);refine aX [(36,ae)] rfl ?_ ?_
    .simp;omega
    refine AK.cP (gF m b c f 60 (by omega) d (by omega)) [0] rfl (λ_=>rfl) ?_;rintro⟨y,E,o⟩;by_cases h:y=0
    .refine aX [(41,ab)] rfl ?_ (AK.n7 ⟨(s2++[65],f+1),by grind,by grind,by grind⟩ (AK.dk [0] rfl ?_ rfl rfl rfl Bw))
     .simp[h];omega
     .simp
    by_cases a:y=1
    .refine aX [(41,ae),(45,ab)] rfl ?_ ?_
     .simp[a]
     refine AK.cP (Ht [97,98,99,100,101] 9 (by decide) (by decide)) [] rfl (λ_=>rfl) ?_;rintro⟨p,g⟩;refine bt rfl ay (AK.n7 ⟨(p,f+1),g,by grind,by grind⟩ (AK.dk [0] rfl ?_ rfl rfl rfl Bw));simp
    .refine aX [(41,ae),(45,ae)] rfl ?_ (AK.n7 ⟨(s2,f+1),by grind,by grind,by grind⟩ (AK.dk [0] rfl ?_ rfl rfl rfl Bw))
     .simp[h,a]
     .simp
  .refine oK [(19,ae)] 2 rfl (by simp[l]) ?_;refine aX [(36,ae)] rfl ?_ ?_
   .simp;omega
   refine AK.cP (gF m b c (k1+1) 60 (by omega) d (by omega)) [0] rfl (λ_=>rfl) ?_;rintro⟨y,E,o⟩;by_cases h:y=0
   .refine aX [(41,ab)] rfl ?_ (AK.n7 ⟨(s++[65],(k1+1)+1),by grind,by grind,by grind⟩ (AK.dk [0] rfl ?_ rfl rfl rfl Bw))
    .simp[h];omega
    .simp
   by_cases a:y=1
   .refine aX [(41,ae),(45,ab)] rfl ?_ ?_
    .simp[a]
    refine AK.cP (Ht [97,98,99,100,101] 9 (by decide) (by decide)) [] rfl (λ_=>rfl) ?_;rintro⟨p,g⟩;refine bt rfl ay (AK.n7 ⟨(p,(k1+1)+1),g,by grind,by grind⟩ (AK.dk [0] rfl ?_ rfl rfl rfl Bw));simp
   .refine aX [(41,ae),(45,ae)] rfl ?_ (AK.n7 ⟨(s,(k1+1)+1),by grind,by grind,by grind⟩ (AK.dk [0] rfl ?_ rfl rfl rfl Bw))
    .simp[h,a]
    .simp
def PN(m:Nat)(b:Nat->Int)(f:m<=1048576):ef (ι:={n:Nat // n<=1048576}) X 19 [.e (.one (.c (.sl ae 1 m (Hl b))))] [] (λ_=>.e (.one (.ptr 0 0))) (λn=>[lu n.1 b 0]):=by
 refine ef.rn Tryz.func19 rfl rfl rfl λa=>?_;by_cases h:2000<m
 .refine aX [(5,ab)] rfl ?_ (AK.norm [lu 2000 b 0] rfl ?_ (AK.n7 ⟨2000,by decide⟩ (AK.dk [0] rfl ?_ rfl rfl rfl (λj d=>by grind))))
  .simp;omega
  .simp[cA,mf,dj]
  .simp
 .refine aX [(5,ae)] rfl ?_ (AK.n7 ⟨m,f⟩ (AK.dk [0] rfl ?_ rfl rfl rfl (λj d=>by grind)))
  .simp;omega
  .simp
def Ub:∀j,j<1->([0]:List Nat)[j]?=aa j:=by decide
def ve:∀j,j<2->([0,1]:List Nat)[j]?=aa j:=by decide
def tL:List bo->List ah
 |[]=>[]
 |x::r=>.int .i64 x.1::BW x.2::tL r
def kt(l:List bo):Prop:=∀x∈l,bD .i64 x.1/\x.2.length<=9223372036854775807
theorem wj:∀l:List bo,(tL l).length=l.length*2
 |[]=>rfl
 |x::r=>by simp only[tL,fb,wj r];omega
def MY:∀{l:List bo}{i:Nat},i<l.length->(tL l)[i*2]?=aa (.int .i64 (l.getD i (0,[])).1)/\(tL l)[i*2+1]?=aa (BW (l.getD i (0,[])).2)
 |[],i,h=>absurd h (fX _)
 |x::r,0,_=>⟨rfl,rfl⟩
 |x::r,i+1,h=>by rw[show(i+1)*2=i*2+1+1 by omega];exact MY (l:=r) (i:=i) (by grind)
def BH:∀l r:List bo,tL (l++r)=tL l++tL r
 |[],r=>rfl
 |x::l,r=>by simp only[sq,tL,BH l r]
theorem HA:∀(l:List bo)(i:Nat)(y:bo),i<l.length->tL (l.set i y)=(tL l).take (i*2)++[.int .i64 y.1,BW y.2]++(tL l).drop (i*2+2)
 |[],i,y,h=>absurd h (fX _)
 |x::l,0,y,_=>by simp[tL]
 |x::l,i+1,y,h=>by rw[List.set_cons_succ,tL,HA l i y (by grind),tL,show(i+1)*2=i*2+1+1 by omega,show i*2+1+1+2=(i*2+2)+1+1 by omega];simp
theorem yj{l:List bo}(h:kt l):gy 2 l.length (eg.fn l) (tL l):=by
 refine⟨wj l,λi _=>rfl,λi hi j c a=>?_⟩;obtain⟨f,d⟩:=MY hi;obtain⟨b,q2⟩:=h (l.getD i (0,[])) (by grind);have e:eg.fn l i=[.int .i64 (l.getD i (0,[])).1,.str (l.getD i (0,[])).2]:=rfl;rw[e]at a
 match j,a with
 |0,a=>cases a;exact⟨_,f,λM=>Rd.int b⟩
 |1,a=>cases a;exact⟨_,d,λM=>Rd.str (by grind) q2⟩
abbrev vA(v:ah):D:=.e (.one (.c (.val v)))
abbrev hB(bf:nD)(n:Nat)(l:List bo):aR:=.cm (gf 76 2 bf n (tL l))
abbrev cB(g:Nat)(bf:nD)(n:Nat):aR:=.cm (dX g 182 (lA bf n))
abbrev UH(x:bo):D:=.e (.one (.c (.Gw 76 [.int .i64 x.1,.str x.2])))
abbrev X2(x:bo):D:=.e (.agg [.c (.int .i64 x.1),.c (.str x.2)])
theorem Uc{x:bo}{vs:List ah}(h:nq vs [.c (.int .i64 x.1),.c (.str x.2)]):vs=[.int .i64 x.1,BW x.2]:=by
 obtain⟨d,a⟩:=h
 match vs,d with
 |[u,v],_ =>
  obtain⟨i,g,q2⟩:=a 0 _ rfl;obtain⟨v',b,q4⟩:=a 1 _ rfl;cases g;cases b;have e:=q2 λ_ _=>af;have f:=(str_val (q4 λ_ _=>af)).1;cases e;rw[f]
def Ud{o:au}{x y:aq}(h:o.op=.call {callee:=.builtin .append,args:=#[x,y],argTypes:=#[182,182]}):lL ag o x y 76 i76 :=
 ⟨⟨182,182,i182,i182,h,(tok _ _ rfl),rfl,(tok _ _ rfl),rfl⟩,(tok _ _ rfl),by decide,by decide⟩
def BI(bf:nD)(n:Nat)(l:List bo):Ev X 127 [vA (lA bf n)] [hB bf n l] (dI n) [hB bf n l]:=by refine Ev.bQ Tryz.func127 rfl λa=>?_;refine oK [] 7 rfl ay ?_;refine AK.Ob tok 0 rfl rfl rfl rfl rfl rfl rfl rfl ?_;exact bt rfl ay (AK.dk [0] rfl rfl rfl rfl rfl Ub)
def yk(b cap:Nat){l:List bo}(d:kt l)(m:Nat){i j:Nat}(hi:i<l.length)(c:j<l.length):Ev X 272 [vA (lA (.row b cap) l.length),dI i,dI j] [hB (.row b cap) l.length l] (dB (decide ((l.getD i (0,[])).1<(l.getD j (0,[])).1))) [hB (.row b cap) l.length l]:=by
 refine Ev.bQ Tryz.func272 rfl λe=>?_
 have a:=yj d;refine aX [(1000001,ab)] rfl ay ?_;refine AK.calm jk [vA (lA (.row b cap) l.length),dI i,vA (.pointer (aa ⟨b,0+(i:Int).toNat*2,af⟩)),vA (.pointer (aa ⟨b,0+(i:Int).toNat*2+0,af⟩)),dI (l.getD i (0,[])).1,vA (lA (.row b cap) l.length),dI j,vA (.pointer (aa ⟨b,0+(j:Int).toNat*2,af⟩)),vA (.pointer (aa ⟨b,0+(j:Int).toNat*2+0,af⟩)),dI (l.getD j (0,[])).1,dB (decide ((l.getD i (0,[])).1<(l.getD j (0,[])).1))] 10 rfl rfl rfl rfl rfl ⟨
  OA.cZ tok bL.nil rfl,OA.cZ tok bL.nil rfl,OA.eval (ds:=[]) tok bL.nil rfl (by simp only[az,aE];omega),OA.cZ tok bL.nil rfl,
  OA.kT (fD rfl) (bM.CM (l:=0) (i:=i) (f:=0) tok rfl rfl (by simp) rfl a rfl rfl hi),
  OA.cZ tok bL.nil rfl,OA.cZ tok bL.nil rfl,OA.eval (ds:=[]) tok bL.nil rfl (by simp only[az,aE];omega),OA.cZ tok bL.nil rfl,
  OA.kT (fD rfl) (bM.CM (l:=0) (i:=j) (f:=0) tok rfl rfl (by simp) rfl a rfl rfl c),
  OA.cZ tok bL.nil rfl,ay⟩ ?_
 exact bt rfl ay (AK.dk [0] rfl rfl rfl rfl rfl Ub)
def HB{N off n:Nat}{all:List au}{o:au}{φ:Fr}{t:aj}{x y:aq}{b cap i:Nat}{l:List bo}{v:bo}(h:o.op=.store t x y)(d:bG tt t=aa i76)(f:off=i*2)(a:bU φ x=.e (.one (.v (.pointer (aa ⟨b,off,af⟩)))))(g:kI (bU φ y)=aa [.c (.int .i64 v.1),.c (.str v.2)])(p:l.length=n)(hi:i<l.length)(m:o.guard=af):
  OA X N all o φ [hB (.row b cap) n l] .any [hB (.row b cap) n (l.set i v)]:=by subst f;have j:=ee.Ah (N:=N) (σ:=[hB (.row b cap) n l]) tok 0 (E:=76) (k:=2) (n:=n) (b:=b) (cap:=cap) (off:=i*2) (xs:=tL l) h d a g rfl rfl rfl (by grind[wj]);grind[Uc,HA,OA.xb]
abbrev swS(b cap:Nat)(l:List bo)(i j:Nat)(x y:Bool):List aR:=match x with
 |false=>[hB (.row b cap) l.length l]
 |true=>match y with
  |false=>[hB (.row b cap) l.length (l.set i (l.getD j (0,[])))]
  |true=>[hB (.row b cap) l.length (mK l i j)]
def yl(b cap:Nat){l:List bo}(e:kt l){i j:Nat}(hi:i<l.length)(d:j<l.length):Ev X 275 [vA (lA (.row b cap) l.length),dI i,dI j] [hB (.row b cap) l.length l] (.fa []) [hB (.row b cap) l.length (mK l i j)]:=by
 refine Ev.bQ Tryz.func275 rfl λg=>?_;have a:=yj e;refine aX [(1000000,ab)] rfl ay ?_;let xs:Nat->D:=λk=>([vA (lA (.row b cap) l.length),dI i,vA (lA (.row b cap) l.length),dI j,vA (lA (.row b cap) l.length),dI j,vA (.pointer (aa ⟨b,0+(j:Int).toNat*2,af⟩)),X2 (l.getD j (0,[])),vA (lA (.row b cap) l.length),dI i,vA (.pointer (aa ⟨b,0+(i:Int).toNat*2,af⟩)),X2 (l.getD i (0,[])),vA (.pointer (aa ⟨b,0+(i:Int).toNat*2,af⟩)),.any,vA (.pointer (aa ⟨b,0+(j:Int).toNat*2,af⟩))]:List D).getD k .any
 refine AK.flags jk xs (xt (swS b cap l i j) 13 15) rfl rfl rfl rfl ⟨
  .QX tok bL.nil,.QX tok bL.nil,.QX tok bL.nil,.QX tok bL.nil,.QX tok bL.nil,.QX tok bL.nil,
  .VI tok bL.nil,
  eh.fw rfl rfl rfl rfl (OA.kT (fD rfl) (bM.CM (l:=0) (i:=j) (f:=0) tok rfl rfl (by simp) rfl a rfl rfl d)),
  .QX tok bL.nil,.QX tok bL.nil,
  .VI tok bL.nil,
  eh.fw rfl rfl rfl rfl (OA.kT (fD rfl) (bM.CM (l:=0) (i:=i) (f:=0) tok rfl rfl (by simp) rfl a rfl rfl hi)),
  .VI tok bL.nil,
  eh.sA rfl rfl ?_,
  .VI tok bL.nil,
  eh.sB rfl rfl ?_,ay⟩ ?_
 .exact HB rfl rfl (by simp) rfl rfl rfl hi rfl
 .exact HB rfl rfl (by simp) rfl rfl (by simp) (by grind) rfl
 intro D c;show AK X _ _ _ _ _ (swS b cap l i j (D 13) (D 15));rw[c 13 (by decide),c 15 (by decide)];exact cw.pO [0] rfl ay rfl rfl rfl Ub
def MZ(g:Nat)(bf:nD){l:List bo}(q:kt l)(r:l.length<=1000){x:bo}(o:x.2.length<=9223372036854775807):
  ef (ι:=nD) X 274 [vA (.pointer (aa ⟨g,0,af⟩)),UH x] [cB g bf l.length,hB bf l.length l] (λ_=>.fa []) (λa=>[cB g a (l.length+1),hB a (l.length+1) (l++[x])]):=by
 refine ef.rn Tryz.func274 rfl rfl rfl λp=>?_;refine aX [(1000000,ab)] rfl ay ?_;have f:=nJ bf l.length;refine AK.KI (ι:=nD) jk 7 8 10 (λk=>bA k 6) (λk=>([vA (.pointer (aa ⟨g,0,af⟩)),vA (.pointer (aa ⟨g,0,af⟩)),vA (.pointer (aa ⟨g,0,af⟩)),vA (lA bf l.length),UH x,X2 x,.e (.one (.c (.sl ab 2 1 λi=>([[.int .i64 x.1,.str x.2]]:List (List C)).getD i [])))]:List D).getD k .any) (λa _=>vA (lA a (l.length+1))) (λa=>[cB g bf l.length,.cm (gf 76 2 a (l.length+1) (tL l++[.int .i64 x.1,BW x.2]))])
  rfl rfl rfl rfl rfl rfl rfl (λk h=>by have:=db h;omega) rfl
  ⟨OA.cZ tok bL.nil rfl,OA.cZ tok bL.nil rfl,OA.kT (fD rfl) (bM.CL rfl rfl),OA.zb tok 0 rfl rfl rfl rfl rfl f rfl,OA.cZ tok bL.nil rfl,OA.kT (fD rfl) (bM.AS (cs:=[.int .i64 x.1,.str x.2]) tok rfl rfl rfl rfl),OA.cZ tok bL.nil rfl,ay,ay,ay,ay⟩
  (λa=>⟨OA.cZ tok bL.nil rfl,OA.cZ tok bL.nil rfl,OA.kT (fD rfl) (bM.CL rfl rfl),OA.zb tok 0 rfl rfl rfl rfl rfl f rfl,OA.cZ tok bL.nil rfl,OA.kT (fD rfl) (bM.AS (cs:=[.int .i64 x.1,.str x.2]) tok rfl rfl rfl rfl),OA.cZ tok bL.nil rfl,ay,ay⟩)
  (mW.xb rfl (ee.oA (l:=1) (bf:=bf) (xs:=tL l) (n:=l.length) (xv:=[.int .i64 x.1,BW x.2]) (Ud rfl) rfl rfl rfl rfl rfl (λM v j c b m=>?_) (by show _*24<=_;omega))) λa=>?_
 .match j,b with
  |0,b=>cases b;cases m;exact⟨rfl,rfl⟩
  |1,b=>grind[str_val]
 have d:=nJ a (l.length+1);refine AK.law (bM.CL rfl rfl) rfl rfl ?_;refine AK.KR tok 0 rfl rfl rfl rfl rfl (by cases a<;>rfl) d rfl rfl rfl ?_;refine bt rfl ay ?_;refine⟨a,cw.pO [0,1] rfl ay ?_ rfl rfl ve⟩;show aa [_,aR.cm (gf _ _ _ _ (tL l++_))]=aa [_,aR.cm (gf _ _ _ _ (tL (l++[x])))];rw[BH];rfl
def gf.cut{E:aj}{b cap:Nat}{l:List bo}{x:bo}{v:ah}{ch:Nat->Option Obj}(h:gf E 2 (.row b cap) (l.length+1) (tL (l++[x])) v ch):gf E 2 (.row b cap) l.length (tL l) v ch:=by
 obtain⟨h1,h2,g,f,c,a,e,i⟩:=h;rw[BH]at *;refine⟨h1,λy d=>h2 y (List.mem_append_left _ d),wj l,by omega,c,tL [x]++a,?_,?_⟩
 .grind
 grind
def P9(g b cap:Nat){l:List bo}{x:bo}(e:kt (l++[x]))(k:l.length<=1000)(a:l.length+1<=cap):
  Ev X 273 [vA (.pointer (aa ⟨g,0,af⟩))] [cB g (.row b cap) (l.length+1),hB (.row b cap) (l.length+1) (l++[x])] (UH x) [cB g (.row b cap) l.length,hB (.row b cap) l.length l]:=by
 refine Ev.bQ Tryz.func273 rfl λd=>?_;have c:gy 2 (l.length+1) (eg.fn (l++[x])) (tL (l++[x])):=by grind[yj,List.length_append]
 refine bt rfl ay ?_;refine AK.law (bM.CL rfl rfl) rfl rfl ?_;refine AK.one (OA.zb tok 0 rfl rfl rfl rfl rfl rfl rfl) rfl ?_;refine bt rfl (by simp only[az,bD,aE];omega) ?_;refine AK.law (bM.CL rfl rfl) rfl rfl ?_;refine AK.one (OA.zb tok 0 rfl rfl rfl rfl rfl rfl rfl) rfl ?_;refine bt rfl (by simp only[az,bD,aE];omega) ?_;refine AK.law (bM.CM (l:=1) (i:=l.length) (f:=0) tok rfl rfl (by simp[show i76.size=2 from rfl]) rfl c rfl rfl (by simp)) rfl rfl ?_;refine bt rfl ay ?_;refine AK.law (bM.CL rfl rfl) rfl rfl ?_;refine AK.one (OA.zb tok 0 rfl rfl rfl rfl rfl rfl rfl) rfl ?_;refine bt rfl ay ?_;refine AK.law (bM.SC tok rfl rfl rfl rfl rfl rfl a (by omega) (by omega)) rfl rfl ?_;rw[show(((l.length+1:Nat):Int)-1).toNat=l.length from by omega];refine AK.law (bM.CL rfl rfl) rfl rfl ?_;refine AK.KR tok 0 rfl rfl rfl rfl rfl rfl rfl rfl rfl rfl ?_;refine oK [] 2 rfl ay ?_;refine AK.N9 (ι:=Unit) 1 (λ_=>gf 76 2 (.row b cap) l.length (tL l)) rfl (λv j h=>⟨(),gf.cut h⟩) λ_=>?_;refine bt rfl ay (AK.dk [0,1] rfl ?_ rfl rfl rfl ve);simp
abbrev UI(g:Nat):D:=.e (.one (.c (.ifs 181 (.val (.pointer (aa ⟨g,0,af⟩))))))
section
variable {σ:List aR}{l g n:Nat}{bf:nD}(a:dC l σ=aa (cB g bf n))
include a
def W8:ri ag σ 181 (.pointer (aa ⟨g,0,af⟩)) "Len" 127 (lA bf n):=.deref tok (eG Tryz.type181) rfl rfl rfl Tryz.underlying181 a rfl (nJ bf n) rfl
def M3:ri ag σ 181 (.pointer (aa ⟨g,0,af⟩)) "Less" 272 (lA bf n):=.deref tok (eG Tryz.type181) rfl rfl rfl Tryz.underlying181 a rfl (nJ bf n) rfl
def M4:ri ag σ 181 (.pointer (aa ⟨g,0,af⟩)) "Swap" 275 (lA bf n):=.deref tok (eG Tryz.type181) rfl rfl rfl Tryz.underlying181 a rfl (nJ bf n) rfl
end
def W9{σ:List aR}{v:ah}:ri ag σ 181 v "Push" 274 v:=.ptr (eG Tryz.type181) rfl rfl rfl Tryz.underlying181
def aai{σ:List aR}{v:ah}:ri ag σ 181 v "Pop" 273 v:=.ptr (eG Tryz.type181) rfl rfl rfl Tryz.underlying181
theorem uH{l:List bo}(h:kt l){i j:Nat}(hi:i<l.length)(b:j<l.length):kt (mK l i j):=λx c=>h x (Po hi b c)
theorem ym:∀(f:Nat)(l:List bo)(j:Nat),j<f->yu f l j=yu (j+1) l j
 |0,_,_,h=>absurd h (fX _)
 |f+1,l,j,h=>by
  rw[yu,yu];by_cases b:(j-1) / 2=j
  .grind
  .rw[aY b,aY b];split
   .have c:(j-1) / 2<j:=by omega
    rw[ym f _ _ (by omega),ym j _ _ c]
   .rfl
def Ue(g b cap:Nat){l:List bo}(a:kt l)(y:l.length<=1000){j:Nat}(t:j<l.length):
  Ev X 158 [UI g,dI j] [cB g (.row b cap) l.length,hB (.row b cap) l.length l] (.fa []) [cB g (.row b cap) l.length,hB (.row b cap) l.length (yu (j+1) l j)]:=by
 refine Ev.bQ Tryz.func158 rfl λx=>?_;refine oK [] 3 rfl ay ?_;refine AK.sY 2 [0] (λq:List bo×Nat=>kt q.1/\q.1.length=l.length/\q.2<l.length/\yu (j+1) l j=yu (q.2+1) q.1 q.2) (λq=>[(1,dI q.2)]) (λq=>[cB g (.row b cap) q.1.length,hB (.row b cap) q.1.length q.1]) (λq=>q.2) (l,j) rfl ?_ rfl ?_ rfl ⟨a,rfl,t,rfl⟩ ?_
 .simp
 .simp
 rintro⟨q,i⟩ ⟨p,r,v,f⟩;simp only at p r v f;cases i with
 |zero =>
  have e:yu (0+1) q 0=q:=by rw[yu,bl rfl]
  rw[e]at f;rw[f];refine oK [] 5 rfl (by simp[bD]) ?_;refine AK.law (E7 (k:=.i64) 0 rfl rfl rfl (by simp[bD]) (λw=>rfl) (λw=>rfl)) rfl rfl ?_;refine aX [(11,ab),(17,ab)] rfl (by simp) (AK.leaveD rfl rfl ?_);exact cw.pO [0,1] rfl ay (by rw[<-r];rfl) rfl rfl ve
 |succ i =>
  refine aX [(11,ae),(1000001,ab)] rfl (by simp only[az,bD];omega) ?_;have s:(((i+1:Nat):Int)-1) / 2=((i / 2:Nat):Int):=by omega
  rw[s];have u:(i+1-1) / 2=i / 2:=by grind
  have m:i / 2<q.length:=by omega
  have c:i+1<q.length:=by omega
  have e:yu (i+1+1) q (i+1)=if n3 q (i+1) (i / 2)=ab then yu (i+1) (mK q (i / 2) (i+1)) (i / 2)else q:=by rw[yu,aY (by omega),u]
  rw[e]at f;refine AK.region ?_;refine aX [(11,ae)] rfl (by simp only[az,eD,dy,aE];omega) ?_;refine AK.kV (yk b cap p q.length c m).tQ [1] (M3 (l:=0) rfl) rfl rfl rfl rfl rfl rfl rfl rfl (λ_=>rfl) rfl (λ_=>rfl) rfl λ_=>?_;by_cases o:n3 q (i+1) (i / 2)=ab
  .rw[bl o]at f;have d:=pv o;refine aX [(17,ae)] rfl (by simpa using d) ?_;refine AK.kV (yl b cap p m c).tQ [1] (M4 (l:=0) rfl) rfl rfl rfl rfl rfl rfl rfl rfl (λ_=>rfl) rfl (λ_=>rfl) rfl λ_=>?_;refine bt rfl ay (AK.aQ (mK q (i / 2) (i+1),i / 2) rfl ?_ ?_ ?_ ?_)
   .simp
   .simp[gi]
   .grind [uH,gi,ym]
   grind
  .rw[aY o]at f;rw[f];have d:¬(q.getD (i+1) (0,[])).1<(q.getD (i / 2) (0,[])).1:=λh=>o (dc h);refine aX [(17,ab)] rfl (by simpa using d) (AK.leaveD rfl rfl ?_);exact cw.pO [0,1] rfl ay (by rw[<-r];rfl) rfl rfl ve
def M5{σ:List aR}{i n:Nat}{bf:nD}{l:List bo}(h:dC i σ=aa (hB bf n l))(f:0<n)(s:St)(d:aF σ s):∃b cap,bf=.row b cap/\n<=cap:=by
 have a:=b9 h;obtain⟨b,cap,rfl⟩:=(gf.len a s d).2.2.1 f;have c:i<s.β.length:=by rw[d.len];grind
 obtain⟨j,e,_⟩:=d.box i _ _ a (br c);exact⟨b,cap,rfl,e.2.2.2.1⟩
def DV(g:Nat)(bf:nD){l:List bo}(a:kt l)(q:l.length<=100){x:bo}(k:bD .i64 x.1/\x.2.length<=9223372036854775807):
  ef (ι:=nD) X 125 [UI g,UH x] [cB g bf l.length,hB bf l.length l] (λ_=>.fa []) (λc=>[cB g c (l.length+1),hB c (l.length+1) (g6 l x)]):=by
 refine ef.rn Tryz.func125 rfl rfl rfl λp=>?_;refine bt rfl ay ?_;refine AK.kV (MZ g bf a (by omega) k.2) [0,1] W9 rfl rfl rfl rfl rfl rfl rfl rfl (λ_=>rfl) rfl (λ_=>rfl) rfl λc=>?_;have d:kt (l++[x]):=λy o=>by
  rcases fx.1 o with h|h
  .exact a y h
  grind
 refine AK.JO (M5 (i:=1) (n:=l.length+1) (bf:=c) (l:=l++[x]) rfl (by omega)) λm=>?_;obtain⟨b,cap,rfl,f⟩:=m;refine bt rfl ay ?_;refine AK.kV (BI (.row b cap) (l.length+1) (l++[x])).tQ [1] (W8 (l:=0) rfl) rfl rfl rfl rfl rfl rfl rfl rfl (λ_=>rfl) rfl (λ_=>rfl) rfl λ_=>?_;refine bt rfl (by simp only[az,bD];omega) ?_;rw[show((l.length+1:Nat):Int)-1=(l.length:Nat) by omega];have e:=Ue (X:=X) g b cap d (by grind) (j:=l.length) (by simp);rw[cX,ig]at e;refine AK.cQ e [0,1] rfl ?_;refine bt rfl ay ?_;exact⟨.row b cap,cw.pO [0,1] rfl ay rfl rfl rfl ve⟩
theorem tD:∀(f g:Nat)(l:List bo)(i n:Nat),n<=i+f->n<=i+g->gO f l i n=gO g l i n
 |0,0,_,_,_,_,_=>rfl
 |0,g+1,l,i,n,h,_=>by rw[gO,gO,bl (by omega)]
 |f+1,0,l,i,n,_,h=>by rw[gO,gO,bl (by omega)]
 |f+1,g+1,l,i,n,c,b=>by
  have hk:i<n5 l i n:=by unfold n5;split<;>omega
  rw[gO,gO];split
  .rfl
  .split
   .exact tD f g _ _ _ (by omega) (by omega)
   .rfl
def M6(g b cap n:Nat){l:List bo}(a:kt l)(B:n<=l.length)(A:l.length<=1000):
  Ev X 161 [UI g,dI 0,dI n] [cB g (.row b cap) l.length,hB (.row b cap) l.length l] .any [cB g (.row b cap) l.length,hB (.row b cap) l.length (gO n l 0 n)]:=by
 refine Ev.bQ Tryz.func161 rfl λz=>?_;refine dm rfl ay ?_;refine AK.sY 2 [0,1,2] (λq:List bo×Nat=>kt q.1/\q.1.length=l.length/\q.2<=n/\gO n l 0 n=gO n q.1 q.2 n) (λq=>[(7,dI q.2)]) (λq=>[cB g (.row b cap) q.1.length,hB (.row b cap) q.1.length q.1]) (λq=>n-q.2) (l,0) rfl ?_ rfl ?_ rfl ⟨a,rfl,by omega,rfl⟩ ?_
 .simp
 .simp
 rintro⟨q,i⟩ ⟨p,s,y,f⟩;simp only at p s y f;by_cases u:n<=2*i+1
 .have e:gO n q i n=q:=by rw[tD n (n+1) _ _ _ (by omega) (by omega),gO,bl u]
  rw[e]at f;rw[f];refine aX [(17,ab),(21,ab)] rfl (by simp only[az,bD,a9,aG,aE];omega) (AK.leaveD rfl rfl ?_);refine bt rfl ay (AK.dk [0,1] rfl ay (by rw[<-s];rfl) rfl rfl ve)
 have hk:i<n5 q i n/\n5 q i n<n:=by unfold n5;split<;>omega
 have e:gO n q i n=if n3 q (n5 q i n) i=ab then gO n (mK q i (n5 q i n)) (n5 q i n) n else q:=by rw[tD n (n+1) _ _ _ (by omega) (by omega),gO,aY u]
 rw[e]at f;have r:2*i+1<q.length:=by omega
 have o:i<q.length:=by omega
 have v1:2*(i:Int)+1=((2*i+1:Nat):Int):=by omega
 have x:((2*i+1:Nat):Int)+1=((2*i+2:Nat):Int):=by omega
 refine aX [(17,ae),(21,ae),(1000004,ab)] rfl (by simp only[az,bD,bS,aG,aE];omega) ?_;rw[v1];refine aX [(1000006,ab)] rfl (by simp only[az,bD,bS,aG,aE];omega) ?_;rw[x];apply AK.join [(0,UI g),(1,dI 0),(2,dI n),(7,dI i),(9,dI (n5 q i n))] [cB g (.row b cap) q.length,hB (.row b cap) q.length q]
 .intro out;by_cases t:2*i+2<n
  .refine AK.region ?_;refine aX [(28,ab)] rfl (by simp only[az,a9,aE];omega) ?_;refine AK.kV (yk b cap p q.length (i:=2*i+2) (j:=2*i+1) (by omega) r).tQ [1] (M3 (l:=0) rfl) rfl rfl rfl rfl rfl rfl rfl rfl (λ_=>rfl) rfl (λ_=>rfl) rfl λ_=>?_;by_cases c:n3 q (2*i+2) (2*i+1)=ab
   .have m:n5 q i n=2*i+2:=bl ⟨t,c⟩;refine aX [(33,ab),(1000008,ab)] rfl (by simpa using pv c) (out _ _ rfl ?_);simp[m]
   .have m:n5 q i n=2*i+1:=aY λh=>c h.2;have d:¬(q.getD (2*i+2) (0,[])).1<(q.getD (2*i+1) (0,[])).1:=λh=>c (dc h);refine aX [(33,ae),(1000008,ab)] rfl (by simpa using d) (out _ _ rfl ?_);simp[m]
  .have m:n5 q i n=2*i+1:=aY λh=>t h.1;refine aX [(28,ae),(33,ae),(1000008,ab)] rfl (by simp only[az,bS,aG,aE];omega) (out _ _ rfl ?_);simp[m]
 generalize n5 q i n=k at *;obtain⟨v,w⟩:=hk;refine AK.region ?_;refine bt rfl ay ?_;refine AK.kV (yk b cap p q.length (i:=k) (j:=i) (by omega) o).tQ [1] (M3 (l:=0) rfl) rfl rfl rfl rfl rfl rfl rfl rfl (λ_=>rfl) rfl (λ_=>rfl) rfl λ_=>?_;by_cases c:n3 q k i=ab
 .rw[bl c]at f;refine aX [(39,ae)] rfl (by simpa using pv c) ?_;refine AK.kV (yl b cap p o (show k<q.length by omega)).tQ [1] (M4 (l:=0) rfl) rfl rfl rfl rfl rfl rfl rfl rfl (λ_=>rfl) rfl (λ_=>rfl) rfl λ_=>?_;refine bt rfl ay (AK.aQ (mK q i k,k) rfl ?_ ?_ ?_ ?_)
  .simp
  .simp[gi]
  .grind [uH,gi]
  grind
 .rw[aY c]at f;rw[f];have d:¬(q.getD k (0,[])).1<(q.getD i (0,[])).1:=λh=>c (dc h);refine aX [(39,ab)] rfl (by simpa using d) (AK.leaveD rfl rfl ?_);refine bt rfl ay (AK.dk [0,1] rfl ay (by rw[<-s];rfl) rfl rfl ve)
def yn{n:Nat}:∀(f:Nat){l:List bo}(i:Nat),kt l->i<l.length->n<=l.length->kt (gO f l i n)
 |0,_,_,h,_,_=>h
 |f+1,l,i,h,hi,b=>by
  rw[gO];split
  .exact h
  .have hk:n5 l i n<n:=by unfold n5;split<;>omega
   split
   .exact yn f _ (uH h hi (by omega)) (by grind[gi]) (by grind[gi])
   grind
def FW(g b cap:Nat){l:List bo}{n:Nat}(a:kt l)(o:l.length=n+1)(s:n<=100)(f:n+1<=cap):
  Ev X 128 [UI g] [cB g (.row b cap) (n+1),hB (.row b cap) (n+1) l] (UH ((kN l).getD n (0,[]))) [cB g (.row b cap) n,hB (.row b cap) n ((kN l).take n)]:=by
 refine Ev.bQ Tryz.func128 rfl λq=>?_;refine bt rfl ay ?_;refine AK.kV (BI (.row b cap) (n+1) l).tQ [1] (W8 (l:=0) rfl) rfl rfl rfl rfl rfl rfl rfl rfl (λ_=>rfl) rfl (λ_=>rfl) rfl λ_=>?_;refine bt rfl (by simp only[az,bD,aE];omega) ?_;rw[show((n+1:Nat):Int)-1=((n:Nat):Int) by omega];have m:=yl (X:=X) b cap a (i:=0) (j:=n) (by omega) (by omega);rw[o]at m;refine AK.kV m.tQ [1] (M4 (l:=0) rfl) rfl rfl rfl rfl rfl rfl rfl rfl (λ_=>rfl) rfl (λ_=>rfl) rfl λ_=>?_;have d:=uH a (i:=0) (j:=n) (by omega) (by omega);have h:=M6 (X:=X) g b cap n d (by grind[gi]) (by grind[gi]);have c:=yn (n:=n) n 0 d (by grind[gi]) (by grind[gi]);have e:gO n (mK l 0 n) 0 n=kN l:=by unfold kN;grind[tD]
 rw[gi,o,e]at h;rw[e]at c;have p:kN l=(kN l).take n++[(kN l).getD n (0,[])]:=by
  have t:(kN l).length=n+1:=by grind[Dd]
  apply sk
  .grind
  grind
 generalize(kN l).getD n (0,[])=x at *;have k:((kN l).take n).length=n:=by grind
 generalize(kN l).take n=r at *;rw[p]at h c;subst k;refine bt rfl ay ?_;refine AK.cQ h [0,1] rfl ?_;refine bt rfl ay ?_;refine AK.kV (P9 g b cap c (by omega) f).tQ [0,1] aai rfl rfl rfl rfl rfl rfl rfl rfl (λ_=>rfl) rfl (λ_=>rfl) rfl λ_=>?_;refine bt rfl ay (AK.dk [0,1] rfl (by simp) rfl rfl rfl ve)
def Qu{P:ar}{o:au}{l:aq->D}{σ:List aR}{op:BinOp}{t ty T:aj}{v:ah}{x y:aq}(h:o.op=.binOp op t x y ty){c:Bool}{u:Array (String×aj)}(q:P.underlying t=aa (.interface u))(r:l x=.e (.one (.c .iI)))(z:l y=.e (.one (.c (.val (.iface T v)))))(b:∀w,(eqGuard op t x y .nilIface (.iface T v)).run P w=.ok () w)(f:∀w es,(eqGuard op t x y .nilIface (.iface T v)).events P w es=es)(m:jm op ae=aa c):bM P o l σ (.e (.one (.c (.bool c)))) σ:=by
 refine .quiet λs p A n=>?_;have i:=n x;have j:=n y;rw[r]at i;rw[z]at j;replace i:=e9 i;replace j:=e9 j;generalize d:p x=vx at i;generalize a:p y=vy at j;cases i;cases j;have k:(Op.equal t .nilIface (.iface T v)).run P s.w=.ok ae s.w:=by show(aZ (9999+1) t _ _).run P s.w=_;unfold aZ;simp[underlying,q]
 have g:∀es,(Op.equal t .nilIface (.iface T v)).events P s.w es=es:=λes=>by show(aZ (9999+1) t _ _).events P s.w es=es;unfold aZ;simp[underlying,q]
 cases op<;>simp only[jm,reduceCtorEq,dw]at m
 .subst m;exact⟨.bool ae,by simp[aw,h,d,a,b,binOp,k],Rd.bool,by simp[aw,h,d,a,b,f,binOp,k,g]⟩
 .subst m;exact⟨.bool ab,by simp[aw,h,d,a,b,binOp,k],Rd.bool,by simp[aw,h,d,a,b,f,binOp,k,g]⟩
abbrev dGv(v:ah):D:=.e (.one (.c (.val v)))
def Ec(T:aj)(v:ah):Ev X 93 [.e (.one (.c .iI)),dGv (.iface T v)] [] (dB ae) []:=by refine Ev.bQ Tryz.func93 rfl λa=>?_;refine bt rfl ay ?_;refine AK.law (Fb rfl Tryz.underlying57 rfl rfl rfl) rfl rfl ?_;refine aX [(11,ab)] rfl (by simp) ?_;refine AK.law (Qu rfl Tryz.underlying57 rfl rfl (λ_=>rfl) (λ_ _=>rfl) rfl) rfl rfl ?_;exact bt rfl ay (AK.bz rfl rfl)
abbrev GB(b a:aj×ah):List aR:=[.cm (dX 1 57 (.iface b.1 b.2)),.cm (dX 2 57 (.iface a.1 a.2))]
def BG:∀j,j<2->([0,1]:List Nat)[j]?=aa j:=by decide
def uG(b a:aj×ah)(k:Int)(p:Bs)(hk:b7 k=ab)(c:bx p=ab):Ev X 45 [dI k,dS p] (GB b a) (dI (dA k p)) (GB b a):=by refine Ev.bQ Tryz.func45 rfl λd=>?_;have c1:bL X [(92,pj aI aS (λk p=>Zv (dA k p)) λk p=>[b7 k=ab,bx p=ab])]:=.cons t92 .nil;refine b8 c1 rfl (by simp[hk,c]) ?_;refine AK.one (OA.Kw tok 0 rfl rfl rfl rfl rfl rfl) rfl ?_;refine AK.cQ (Ec _ _) [] rfl ?_;refine b8 c1 rfl ay ?_;refine AK.one (OA.Kw tok 1 rfl rfl rfl rfl rfl rfl) rfl ?_;refine AK.OJ (Ec _ _) [] rfl rfl rfl rfl rfl rfl rfl rfl rfl rfl rfl ?_;exact aW c1 [(20,ae)] rfl (by simp) (AK.dk [0,1] rfl rfl rfl rfl rfl BG)
end
section
open Go.Proofs Go.Conc Go.Conc.Lib
open Go.ConcN (WgLive PayAt Has RW AtR0)
open Go.ConcR (KK WgAt stA smA rd wr mk Payload DC0)
instance pay:Payload:=⟨218⟩
def mr(f:Int):dv:=λargs σ=>match args,σ with
 |[.e (.one (.c (.int .i64 k))),g,.e (.one (.c (.int .i64 n)))],[]=>match ky 2 g with
  |none=>af
  |some (d,b)=>aa (XY (de k (cP.list d b) n),[],[cP.fits d b,k=f])
 |_,_=>af
noncomputable def Q7:Code:=(Tryz.f142.body).getD .skip
noncomputable def Lr:Array au:=match Q7 with|.seq (.region _ o _) _=>o|_=>#[]
noncomputable def Ls:Array au:=match Q7 with|.seq _ (.region _ o _)=>o|_=>#[]
def Lt:Tryz.f142.body=aa (.seq (.region 0 Lr ae) (.region 1 Ls ab)):=by kernel_rfl
def oW(d:Option Nat)(op:Op)(ty:aj)(b:Array Edge):au:={dst:=d,op:=op,type:=ty,pos:= "l12_snap.go:82",after:=b,guard:=af}
def vo:List au:=[oW (aa 6) (.load 205 (.tmp 4)) 205 #[],oW (aa 7) (.load 3 (.tmp 5)) 3 #[],oW (aa 8) (.load 3 (.tmp 1)) 3 #[],oW (aa 9) (.load 23 (.tmp 2)) 23 #[],oW (aa 10) (.load 3 (.tmp 3)) 3 #[],
 oW (aa 11) (.call {callee:=.value (.func 144),args:=#[.tmp 8,.tmp 9,.tmp 10],argTypes:=#[3,23,3]}) 218 #[⟨2,.data⟩,⟨3,.data⟩,⟨4,.data⟩],
 oW (aa 12) (.indexAddr 205 (.tmp 6) (.tmp 7)) 0 #[⟨0,.data⟩,⟨1,.data⟩,⟨0,.phase⟩,⟨1,.phase⟩,⟨2,.phase⟩,⟨3,.phase⟩,⟨4,.phase⟩,⟨5,.phase⟩],
 oW af (.store 218 (.tmp 12) (.tmp 11)) 0 #[⟨6,.data⟩,⟨5,.data⟩,⟨5,.chain⟩,⟨0,.phase⟩,⟨1,.phase⟩,⟨2,.phase⟩,⟨3,.phase⟩,⟨4,.phase⟩,⟨5,.phase⟩]]
def Pd:Ls=vo.toArray:=by kernel_rfl
def oL{i:Nat}{o:au}(h:vo[i]?=aa o):i<8:=(b6.1 h).1
section
variable (k:Int)(ps:List bJ)(a:Int)(n x C:Nat)
def VZ(b:ah):Fr:=[(0,.e (.one (.v b))),(1,.e (.one (.c (.rp [.int .i64 k])))),(2,.e (.one (.c (.rp [.sl ae 2 ps.length (cP.fn ps)])))),(3,.e (.one (.c (.rp [.int .i64 a])))),(4,.e (.one (.c (.rp [.val (.slice (aa ⟨C,0,af⟩) n n)])))),(5,.e (.one (.c (.rp [.int .i64 x]))))]
def xW:Nat->D
 |0=>.e (.one (.v (.slice (aa ⟨C,0,af⟩) n n)))
 |1=>dI x
 |2=>dI k
 |3=>cP.sl ps
 |4=>dI a
 |5=>XY (de k ps a)
 |6=>.e (.one (.v (.pointer (aa ⟨C,x*2,af⟩))))
 |_=>.any
def Fp:Nat->Option Nat
 |6=>aa 0|7=>aa 1|8=>aa 2|9=>aa 3|10=>aa 4|11=>aa 5|12=>aa 6|_=>af
def frW(b:ah):Nat->Fr
 |5=>[(8,dI k),(9,cP.sl ps),(10,dI a)]
 |6=>[(6,.e (.one (.v (.slice (aa ⟨C,0,af⟩) n n)))),(7,dI x)]
 |_=>VZ k ps a n x C b
end
def Pe{X:Cx ag}{n x C:Nat}(f:x<n):OA X 13 vo (oW (aa 12) (.indexAddr 205 (.tmp 6) (.tmp 7)) 0 #[⟨0,.data⟩,⟨1,.data⟩,⟨0,.phase⟩,⟨1,.phase⟩,⟨2,.phase⟩,⟨3,.phase⟩,⟨4,.phase⟩,⟨5,.phase⟩]) [(6,.e (.one (.v (.slice (aa ⟨C,0,af⟩) n n)))),(7,dI x)] [] (.e (.one (.v (.pointer (aa ⟨C,x*2,af⟩))))) []:=by
 refine .kT (λ_ _ _ _=>dK rfl) (bM.quiet λs j m g=>?_);have b:=g (.tmp 6);have d:=g (.tmp 7);have l:bU [(6,D.e (.one (.v (.slice (aa ⟨C,0,af⟩) n n)))),(7,dI x)] (.tmp 6)=.e (.one (.v (.slice (aa ⟨C,0,af⟩) n n))):=rfl;have i:bU [(6,D.e (.one (.v (.slice (aa ⟨C,0,af⟩) n n)))),(7,dI x)] (.tmp 7)=dI x:=rfl;rw[l]at b;rw[i]at d;have b:=Rd.en b;have d:=e9 d;generalize c:j (.tmp 7)=vy at d;cases d;have h:=(tok 205 i205 rfl).run_underlying (w:=s.w);refine⟨.pointer (aa ⟨C,x*2,af⟩),?_,Rd.val rfl,?_⟩
 .simp[aw,oW,b,c,Instr.indexAt,asIntOf,h,i205,(tok 218 i218 rfl).run_sizeOf,i218,du,f]
 .simp[aw,oW,b,c,Instr.indexAt,asIntOf,h,i205,du,f]
def V0{X:Cx ag}{k:Int}(m:er X 144 (mr k))(ps:List bJ)(a:Int)(n x C:Nat)(r:x<n)(l:ah):
  K1 X 13 vo.toArray (VZ k ps a n x C l) [] (xW k ps a n x C) (frW k ps a n x C l) Fp 7:=by
 have u:bL X [(144,mr k)]:=bL.cons m bL.nil;have f:∀(i:Nat) (o:au) (φ:Fr) (d:D) (obs:List Prop),vo[i]?=aa o->wP tt [(144,mr k)] [] vo φ [] o=aa (d,af,obs)->az obs->OA X 13 vo o φ [] d [] :=
  λi o φ d obs _ h b=>gL tok u h b
 refine⟨?_,?_,?_,?_,?_,?_,by decide⟩
 .intro i o b e p _;simp only[iB]at b;have hi:=oL b
  match i,hi with
  |0,_|1,_|2,_|3,_|4,_|5,_|6,_|7,_ =>
   cases b;simp[oW]at p;try (rcases p with rfl|rfl|rfl|rfl|rfl|rfl|rfl|rfl|rfl<;>decide)
   try (rcases p with rfl|rfl|rfl<;>decide)
 .intro i o d b w;simp only[iB]at b;have hi:=oL b
  match i,hi with
  |0,_|1,_|2,_|3,_|4,_|5,_|6,_|7,_ =>
   cases b;cases w;try exact⟨rfl,by decide⟩
 .intro d i h;unfold Fp at h;split at h<;>cases h<;>exact⟨_,rfl,rfl⟩
 .intro i o b g;simp only[iB]at b;have hi:=oL b
  match i,hi with
  |0,_=>cases b;exact f 0 _ _ _ _ rfl rfl ay
  |1,_=>cases b;exact f 1 _ _ _ _ rfl rfl ay
  |2,_=>cases b;exact f 2 _ _ _ _ rfl rfl ay
  |3,_=>cases b;exact f 3 _ _ _ _ rfl rfl ay
  |4,_=>cases b;exact f 4 _ _ _ _ rfl rfl ay
  |5,_ =>
   cases b;have:=f 5 _ (frW k ps a n x C l 5) _ _ rfl rfl (by simp[cP.aO]);rw[cP.list_fn]at this;exact this
  |6,_=>cases b;exact Pe r
  |7,_=>grind
 .intro i o b g t σ s v c;simp only[iB]at b;have hi:=oL b
  match i,hi with
  |0,_|1,_|2,_|3,_|4,_ =>
   match t with
   |0|1|2|3|4|5=>exact c
   |t+6=>trivial
  |5,_ =>
   cases b
   match t with
   |8=>exact(show dt σ s v (xW k ps a n x C 2)from by simpa[Fp,oW,dr,Region.binds]using c)
   |9=>exact(show dt σ s v (xW k ps a n x C 3)from by simpa[Fp,oW,dr,Region.binds]using c)
   |10=>exact(show dt σ s v (xW k ps a n x C 4)from by simpa[Fp,oW,dr,Region.binds]using c)
   |0|1|2|3|4|5|6|7=>trivial
   |t+11=>trivial
  |6,_ =>
   cases b
   match t with
   |6=>exact(show dt σ s v (xW k ps a n x C 0)from by simpa[Fp,oW,dr,Region.binds]using c)
   |7=>exact(show dt σ s v (xW k ps a n x C 1)from by simpa[Fp,oW,dr,Region.binds]using c)
   |0|1|2|3|4|5=>trivial
   |t+8=>trivial
  |7,_=>grind
 .intro o b j q g;simp only[iB]at b;cases b
  match j,q with
  |0,_=>exact⟨⟨0,.phase⟩,by simp[oW],rfl,rfl⟩
  |1,_=>exact⟨⟨1,.phase⟩,by simp[oW],rfl,rfl⟩
  |2,_=>exact⟨⟨2,.phase⟩,by simp[oW],rfl,rfl⟩
  |3,_=>exact⟨⟨3,.phase⟩,by simp[oW],rfl,rfl⟩
  |4,_=>exact⟨⟨4,.phase⟩,by simp[oW],rfl,rfl⟩
  |5,_=>exact⟨⟨5,.phase⟩,by simp[oW],rfl,rfl⟩
  |6,_=>exact⟨⟨6,.data⟩,by simp[oW],rfl,rfl⟩
  |7,_=>grind
noncomputable def vp:aU:={(default:aU)with fn:=Tryz.prog.funcs.size,defers:=[],mode:=.panicking [goexitEntry]}
def xN(vs:Array ah):Deferred:={target:=.fn (.func 142) vs,args:=#[]}
def Iw(v0 v1 v2 v3 v4 v5:ah)(w:aA):aH ag ae (born ag (xN #[v0,v1,v2,v3,v4,v5])) w =
  .go (G ((baseD 142).at ⟨#[v0,v1,v2,v3,v4,v5,ai,ai,ai,ai,ai,ai,ai],[]⟩ [.code (.seq (.region 0 Lr ae) (.region 1 Ls ab))]) [vp]) w #[]:=by
 have d:=Lt;have c:Tryz.f142.ntmps=13:=by kernel_rfl
 have b:¬Tryz.f142.name= "runtime.NumGoroutine":=by
  have:(Tryz.f142.name== "runtime.NumGoroutine")=ae:=by kernel_rfl
  grind
 simp[born,xN,aH,unwind,callDeferred,invoke,callFunc,Tryz.func142,d,c,b,seen,GStep.after,G,Frame.enter,Frame.at,baseD,vp]
end
section
variable {X:Cx ag}
abbrev pk(ps:List bJ)(i:Nat):bJ:=ps.getD i (0,[])
def Ll{k n:Int}{ps:List bJ}{i:Nat}{r:Bs}(hi:i<ps.length)(h:dY k (pk ps i) n=aa r)(a:∀j,j<i->dY k (pk ps j) n=af):de k ps n=aa r:=by
 unfold de;induction ps generalizing i with
 |nil=>grind
 |cons p ps ih =>
  cases i with
  |zero=>grind
  |succ i =>
   have b:=a 0 (by omega);grind
def Fi{k n:Int}{ps:List bJ}(a:∀j,j<ps.length->dY k (pk ps j) n=af):de k ps n=af:=by unfold de;grind[List.getElem_of_mem]
theorem rE.U5{P:ar}{φ:Fr}{σ:List aR}{T:List (Nat×TI)}(hT:cW P T){fn:Func}{c:Nat}{res:D}{σ':List aR}(ks:List Nat){ps:List Prop}(h:HT T fn.results.toList ks φ res=aa ps)(f:az ps)(e:j3 ks σ=aa σ')(a:kJ σ'=ab)(i:dH ks=ab)(hk:∀j,j<c->ks[j]?=aa j):
  rE P fn c res σ' .ret φ σ:=by
 refine⟨.inl rfl,ks,?_⟩;unfold HT at h;split at h
 .rename_i ds Y8;split at h
  .rename_i d g;split at h
   .rename_i b;exact⟨d,ps,Am.U5 hT Y8 g,h,f,b,e,a,i,hk⟩
   grind
  grind
 grind
def xG{a:List Nat}:∀j,j<0->a[j]?=aa j:=λ_ h=>absurd h (fX _)
def Lm(b:er X 126 nY)(k:Int)(ps:List bJ)(n:Int)(hk:b7 k=ab):Ev X 144 [dI k,cP.sl ps,dI n] [] (XY (de k ps n)) []:=by
 refine Ev.sI Tryz.func144 rfl rfl rfl λl=>?_;have f:=l.sl 1 rfl;have d:bL X [(179,Fc aI (Fh eg) aI (λk p n=>A1 (dY k p n)) λk _ _=>[b7 k=ab])]:=.cons (SY b) .nil;refine b8 d rfl ay ?_;refine AK.cE 1 (λi=>i<=ps.length/\∀j,j<i->dY k (pk ps j) n=af) (λi:Nat=>[(0,dI k),(2,dI n),(6,.e (.one (.ptr 0 0))),(11,cP.sl ps),(12,dI ps.length),(13,dI i)]) (λ_=>[.cells 218 [.c (.str []),.c (.bool ae)]]) (λi=>ps.length-i) 0 rfl ?_ rfl ?_ rfl ⟨by omega,by omega⟩ ?_
 .simp
 .simp
 rintro i ⟨hi,a⟩;by_cases h:i<ps.length
 .cases g:dY k (pk ps i) n with
  |some r =>
   refine aW d [(14,ab),(24,ab)] rfl ?_ (AK.freeze 6 0 rfl rfl rfl (AK.fQ ?_))
   .simp only[az,cf,eg.list_fn];refine⟨?_,eg.aO _,hk,by omega,by omega,dc (by omega)⟩;grind
   .refine rE.U5 tok [] rfl ?_ rfl rfl rfl xG;rw[Ll h g a];simp only[cf,eg.list_fn];have e:dY k ((ps.getD i cP.cd).1,(ps.getD i cP.cd).2) n=aa r:=g;rw[e];simp
  |none =>
   refine aW d [(14,ab),(24,ae)] rfl ?_ (AK.aQ (i+1) rfl ?_ ?_ ?_ ?_)
   .simp only[az,cf,eg.list_fn];refine⟨by simp only[bD];omega,?_,eg.aO _,hk,by omega,by omega,dc (by omega)⟩;grind
   .simp
   .simp
   .grind
   grind
 .refine aW d [(14,ae)] rfl (by simp;omega) (AK.leaveD rfl rfl ?_);refine b8 d rfl ay ?_;refine AK.freeze 6 0 rfl rfl rfl ?_;refine AK.RU tok [] rfl ?_ rfl rfl rfl xG;rw[Fi λj m=>a j (by omega)];simp
def SZ(a:er X 126 nY){k:Int}(hk:b7 k=ab):er X 144 (mr k):=by
 intro args σ res σ' obs h c;unfold mr at h;split at h
 .rename_i k1 da n;split at h
  .cases h
  .rename_i f e d;cases h;obtain⟨b,rfl⟩:=c;exact(Lm a _ _ n hk).args λs vs=>cp.imp (λ_ r=>r) (cp.imp (λ_ r=>cP.jH d b r) (cp.imp (λ_ r=>r) (λ_ r=>r))) vs
 grind
def Ik:dv:=λargs σ=>match args,σ with
 |[.e (.one (.c (.str [46]))),.e (.one (.c (.int .i64 c)))],[]=>aa (dS (List.replicate c.toNat 46),[],[0<=c/\c<=3])
 |_,_=>af
def t160:er X 160 (kL aI (λn=>dI (cO n.toNat)) λn=>[0<=n/\n<=4000000]):=.pS λn h=>by
 have a:0<=n/\n<=4000000:=h;obtain⟨m,rfl⟩:∃m:Nat,n=m:=⟨n.toNat,by omega⟩
 exact CZ (X:=X) m (by omega)
def Ln{n:Nat}(b:1<=n)(a:n<=8):n<=cO n/\cO n<=n+3:=by unfold cO;grind
def Lo(a:er X 159 Ik)(p:Bs):Ev X 126 [dS p] [] (dS (eY p)) []:=by
 refine Ev.bQ Tryz.func126 rfl λe=>?_;have d:bL X [(139,kL aS (λs=>dB (bx s)) λ_=>[]),(160,kL aI (λn=>dI (cO n.toNat)) λn=>[0<=n/\n<=4000000]),(159,Ik)]:=.cons t139 (.cons t160 (.cons a .nil));by_cases b:bx p=ab
 .have c:=b;simp only[bx,bR,a9]at c;have f:=Ln c.1.1 c.1.2;refine aW d [(5,ae)] rfl ?_ (AK.bz rfl ?_)
  .simp[b,bD];omega
  .simp[eY,b]
 .refine aW d [(5,ab)] rfl ?_ (AK.bz rfl ?_)
  .simp[b]
  .simp[eY,b]
def VS(a:er X 159 Ik):er X 126 nY:=.pS λp _=>Lo a p
def O8:Ev X 159 [dS [46],dI 0] [] (dS []) []:=by
 refine Ev.bQ Tryz.func159 rfl λa=>?_;refine aX [(12,ab)] rfl ?_ (AK.bz rfl)
 .simp
def O9:Ev X 159 [dS [46],dI 1] [] (dS [46]) []:=by
 refine Ev.bQ Tryz.func159 rfl λa=>?_;refine aX [(12,ae),(14,ab)] rfl ?_ (AK.bz rfl)
 .simp
def VR(b:Ev X 159 [dS [46],dI 2] [] (dS [46,46]) [])(d:Ev X 159 [dS [46],dI 3] [] (dS [46,46,46]) []):er X 159 Ik:=by
 intro args σ res σ' obs h a;unfold Ik at h;split at h
 .rename_i c;cases h;have:c=0∨c=1∨c=2∨c=3:=by have:0<=c/\c<=3:=a;omega
  rcases this with rfl|rfl|rfl|rfl
  .exact O8
  .exact O9
  .exact b
  grind
 grind
def SU(a b:List Bs):Ev X 147 [cS.sl a,cS.sl b] [] (dB (a==b)) []:=by
 refine Ev.bQ Tryz.func147 rfl λk=>?_;have c:=k.sl 0 rfl;by_cases g:a.length=b.length
 .refine aX [(10,ae)] rfl (by simp[g]) ?_;refine AK.kg (λi=>i<=a.length/\∀j,j<i->a.getD j []=b.getD j []) (λi:Nat=>[(0,cS.sl a),(1,cS.sl b),(12,dI a.length),(13,dI i)]) (λ_=>[]) (λi=>a.length-i) 0 rfl ?_ rfl ay ⟨by omega,by omega⟩ ?_
  .simp
  rintro i ⟨hi,d⟩;by_cases h:i<a.length
  .by_cases f:a.getD i []=b.getD i []
   .refine aX [(14,ab),(24,ae)] rfl ?_ (AK.gb (i+1) rfl ?_ rfl ay ?_ ?_)
    .simp only[az,cf];have e:(a.getD i cS.cd==b.getD i cS.cd)=ab:=gp.2 f;exact⟨by simp only[bD];omega,by grind,by omega,by omega,by omega,by omega,dc (by omega)⟩
    .simp
    .grind
    .omega
   .refine aX [(14,ab),(24,ab)] rfl ?_ (AK.ir (cw.zero rfl ?_))
    .simp only[az,cf];grind
    .have:(a==b)=ae:=eD.2 (by grind);simp[this]
  .refine aX [(14,ae)] rfl (by simp;omega) (AK.leave rfl rfl ?_);refine bt rfl ay (AK.bz rfl ?_);have:a=b:=sk g λj f l=>by grind
   simp[this]
 .refine aX [(10,ab)] rfl ?_ (AK.bz rfl ?_)
  .simp;omega
  .have:(a==b)=ae:=eD.2 (by grind);simp[this]
end
def xH{P:ar}{o:au}{m:aq->D}{σ:List aR}{op:BinOp}{t ty:aj}{x y:aq}(h:o.op=.binOp op t x y ty){e:aj}(C:P.underlying t=aa (.pointer e)){b c:Bool}(z:∀s u v,aF σ s->dt σ s u (m x)->dt σ s v (m y)->∃p q,u=.pointer p/\v=.pointer q/\(p==q)=b/\(eqGuard op t x y u v).run P s.w=.ok () s.w/\(∀es,(eqGuard op t x y u v).events P s.w es=es) /\
   (Op.equal t u v).run P s.w=.ok b s.w/\∀es,(Op.equal t u v).events P s.w es=es)(n:jm op b=aa c):bM P o m σ (.e (.one (.c (.bool c)))) σ:=by
 refine .quiet λs B A r=>?_;obtain⟨p,q,f,g,E,i,k,j,l⟩:=z s _ _ A (r x) (r y);rw[f,g]at i j;have d:=k #[];have a:=l #[];rw[f,g]at d a;cases op<;>simp only[jm,reduceCtorEq,dw]at n
 .subst n;exact⟨.bool b,by simp[aw,h,f,g,i,binOp,j],Rd.bool,by simp[aw,h,f,g,i,d,binOp,j,a]⟩
 .subst n;exact⟨.bool (!b),by simp[aw,h,f,g,i,binOp,j],Rd.bool,by simp[aw,h,f,g,i,d,binOp,j,a]⟩
def rP{P:ar}{o:au}{g:aq->D}{σ:List aR}{op:BinOp}{t ty:aj}{x:aq}(h:o.op=.binOp op t x (.const (.pointer af)) ty){e:aj}(i:P.underlying t=aa (.pointer e)){c:Bool}(j:g x=.e (.one (.c .fz)))(k:g (.const (.pointer af))=.e (.one (.c .fz)))(l:jm op ab=aa c):bM P o g σ (.e (.one (.c (.bool c)))) σ:=by
 refine xH h i (b:=ab) ?_ l;intro s u v _ a d;rw[j]at a;rw[k]at d;replace a:=e9 a;replace d:=e9 d;cases a;cases d;have m:(Op.equal t (.pointer af) (.pointer af)).run P s.w=.ok ab s.w:=by show(aZ (9999+1) t _ _).run P s.w=_;unfold aZ;simp[underlying,i]
 have f:∀es,(Op.equal t (.pointer af) (.pointer af)).events P s.w es=es:=λes=>by show(aZ (9999+1) t _ _).events P s.w es=es;unfold aZ;simp[underlying,i]
 exact⟨af,af,rfl,rfl,rfl,by cases op<;>simp[eqGuard],λes=>by cases op<;>simp[eqGuard],m,f⟩
def SN{P:ar}{o:au}{f:aq->D}{σ:List aR}{op:BinOp}{t ty:aj}{x:aq}(h:o.op=.binOp op t x (.const (.pointer af)) ty){e:aj}(g:P.underlying t=aa (.pointer e)){c:Bool}{l off:Nat}(j:f x=.e (.one (.ptr l off)))(k:f (.const (.pointer af))=.e (.one (.c .fz)))(m:jm op ae=aa c):bM P o f σ (.e (.one (.c (.bool c)))) σ:=by
 refine xH h g (b:=ae) ?_ m;intro s u v _ i a;rw[j]at i;rw[k]at a;replace a:=e9 a;cases a;obtain⟨_,L,b,_,_,rfl⟩:=(i:gB σ s u (.ptr l off));have n:(Op.equal t (.pointer (aa ⟨b,off,af⟩)) (.pointer af)).run P s.w=.ok ae s.w:=by show(aZ (9999+1) t _ _).run P s.w=_;unfold aZ;simp[underlying,g]
 have d:∀es,(Op.equal t (.pointer (aa ⟨b,off,af⟩)) (.pointer af)).events P s.w es=es:=λes=>by show(aZ (9999+1) t _ _).events P s.w es=es;unfold aZ;simp[underlying,g]
 exact⟨_,af,rfl,rfl,rfl,by cases op<;>simp[eqGuard],λes=>by cases op<;>simp[eqGuard],n,d⟩
def OY{P:ar}{o:au}{i:aq->D}{σ:List aR}{op:BinOp}{t ty:aj}{x y:aq}(h:o.op=.binOp op t x y ty){e:aj}(k:P.underlying t=aa (.pointer e)){n:Nat}(q:n≠0)(m:∀w,(sizeOf e).run P w=.ok n w)(j:∀w es,(sizeOf e).events P w es=es){c:Bool}{l off:Nat}(z:i x=.e (.one (.ptr l off)))(B:i y=.e (.one (.ptr l off)))(A:jm op ab=aa c):bM P o i σ (.e (.one (.c (.bool c)))) σ:=by
 refine xH h k (b:=ab) ?_ A;intro s u v _ p r;rw[z]at p;rw[B]at r;obtain⟨_,L,b,C,f,rfl⟩:=(p:gB σ s u (.ptr l off));obtain⟨_,F,G,d,a,rfl⟩:=(r:gB σ s v (.ptr l off));rw[C]at d;cases d;rw[f]at a;cases a;have E:(Op.equal t (.pointer (aa ⟨b,off,af⟩)) (.pointer (aa ⟨b,off,af⟩))).run P s.w=.ok ab s.w:=by show(aZ (9999+1) t _ _).run P s.w=_;unfold aZ;simp[underlying,k,m,q,sameAddr]
 have g:∀es,(Op.equal t (.pointer (aa ⟨b,off,af⟩)) (.pointer (aa ⟨b,off,af⟩))).events P s.w es=es:=λes=>by show(aZ (9999+1) t _ _).events P s.w es=es;unfold aZ;simp[underlying,k,m,j,q,sameAddr]
 exact⟨_,_,rfl,rfl,by simp,by cases op<;>simp[eqGuard],λes=>by cases op<;>simp[eqGuard],E,g⟩
def zg{P:ar}{o:au}{g:aq->D}{σ:List aR}{op:BinOp}{t ty:aj}{x:aq}(h:o.op=.binOp op t x (.const (.pointer af)) ty){e:aj}(i:P.underlying t=aa (.pointer e)){c:Bool}{cs:List C}(j:g x=.e (.one (.c (.rp cs))))(k:g (.const (.pointer af))=.e (.one (.c .fz)))(l:jm op ae=aa c):bM P o g σ (.e (.one (.c (.bool c)))) σ:=by
 refine xH h i (b:=ae) ?_ l;intro s u v _ a d;rw[j]at a;rw[k]at d;replace a:=e9 a;replace d:=e9 d;cases d;cases a with|rp b off =>
 have m:(Op.equal t (.pointer (aa ⟨b,off,af⟩)) (.pointer af)).run P s.w=.ok ae s.w:=by show(aZ (9999+1) t _ _).run P s.w=_;unfold aZ;simp[underlying,i]
 have f:∀es,(Op.equal t (.pointer (aa ⟨b,off,af⟩)) (.pointer af)).events P s.w es=es:=λes=>by show(aZ (9999+1) t _ _).events P s.w es=es;unfold aZ;simp[underlying,i]
 exact⟨_,af,rfl,rfl,rfl,by cases op<;>simp[eqGuard],λes=>by cases op<;>simp[eqGuard],m,f⟩
section
variable {X:Cx ag}
abbrev bB(a:Bool)(v1:ah)(bf:Option (Nat×Nat))(xs:Bs)(b:Nat):aR:=.cm (BB 261 5 a v1 bf xs b)
def CV(v1:ah)(b:cN v1=ab)(bf:Option (Nat×Nat))(xs:Bs)(a:Nat):Ev X 214 [.e (.one (.ptr 0 0))] [bB ae v1 bf xs a] (.fa []) [bB ab v1 bf xs a]:=by
 refine Ev.bQ Tryz.func214 rfl λc=>?_;refine bt rfl ay ?_;refine AK.law (bM.RL tok rfl rfl rfl rfl rfl) rfl rfl ?_;refine AK.law (rP rfl Tryz.underlying259 rfl rfl rfl) rfl rfl ?_;refine bt rfl ay ?_;refine AK.law (bM.bTo rfl rfl Tryz.underlying259 Tryz.underlying123 (eG Tryz.type261) (by simp[Tryz.t261]) rfl) rfl rfl ?_;refine AK.law (bM.U0 Tryz.func230 (by kernel_rfl) (by kernel_rfl) (by kernel_rfl) (by kernel_rfl) rfl rfl rfl) rfl rfl ?_;refine AK.law (bM.UZ rfl rfl Tryz.underlying123 Tryz.underlying259 (eG Tryz.type261) (by simp[Tryz.t261]) (by kernel_rfl) rfl) rfl rfl ?_
 refine bt rfl ay ?_;refine AK.law (bM.N1 tok rfl rfl rfl rfl rfl rfl b) rfl rfl ?_;refine bt rfl ay ?_;exact cw.pO [0] rfl ay rfl rfl rfl (λj d=>by grind)
def CW(v1:ah)(bf:Option (Nat×Nat))(xs:Bs)(a:Nat):Ev X 214 [.e (.one (.ptr 0 0))] [bB ab v1 bf xs a] (.fa []) [bB ab v1 bf xs a]:=by
 refine Ev.bQ Tryz.func214 rfl λb=>?_;refine bt rfl ay ?_;refine AK.law (bM.JI tok rfl rfl rfl rfl rfl) rfl rfl ?_;refine AK.law (SN rfl Tryz.underlying259 rfl rfl rfl) rfl rfl ?_;refine bt rfl ay ?_;refine AK.law (bM.JI tok rfl rfl rfl rfl rfl) rfl rfl ?_;refine bt rfl ay ?_;refine AK.law (OY rfl Tryz.underlying259 (n:=2) (by decide) (λw=>by simp[sizeOf,typeInfo,eG Tryz.type261,Tryz.t261]) (λw es=>by simp[sizeOf,typeInfo,eG Tryz.type261]) rfl rfl rfl) rfl rfl ?_
 refine bt rfl ay ?_;exact cw.pO [0] rfl ay rfl rfl rfl (λj c=>by grind)
abbrev bb(a:Bool)(bf:Option (Nat×Nat))(xs:Bs)(b:Nat):aR:=bB a (py bf xs.length) bf xs b
def AY:∀j,j<1->([0]:List Nat)[j]?=aa j:=λj a=>by grind
def AZ(a:Bool)(bf:Option (Nat×Nat))(xs:Bs)(b:Nat)(c:xs.length<=9223372036854775807)(d:bf=af->xs=[]):Ev X 205 [.e (.one (.ptr 0 0))] [bb a bf xs b] (dI xs.length) [bb a bf xs b]:=by
 refine Ev.bQ Tryz.func205 rfl λf=>?_;refine bt rfl ay ?_;refine AK.law (bM.fG tok rfl rfl rfl rfl rfl) rfl rfl ?_;cases bf with
 |none =>
  have:=d rfl;subst this;refine AK.law (bM.vj rfl rfl Tryz.underlying22 rfl (by simp)) rfl rfl ?_;refine bt rfl ay (AK.dk [0] rfl ?_ rfl rfl rfl AY);simp
 |some p =>
  refine AK.law (bM.vj rfl rfl Tryz.underlying22 rfl c) rfl rfl ?_;refine bt rfl ay (AK.dk [0] rfl ?_ rfl rfl rfl AY);simp
def E5(g cap:Nat)(xs s:Bs)(a:Nat)(f:s.length<=9223372036854775807)(b:xs.length+s.length<=cap):Ev X 186 [.e (.one (.ptr 0 0)),dS s] [bb ab (aa (g,cap)) xs a] (.fa [.one (.c (.int .i64 s.length)),.one (.c .iI)]) [bb ab (aa (g,cap)) (xs++s) a]:=by
 refine Ev.bQ Tryz.func186 rfl λd=>?_;refine bt rfl ay ?_;refine AK.cQ (CW (py (aa (g,cap)) xs.length) (aa (g,cap)) xs a) [0] rfl ?_;refine bt rfl ay ?_;refine AK.law (bM.fG tok rfl rfl rfl rfl rfl) rfl rfl ?_;refine bt rfl ay ?_;refine AK.law (bM.N2 (l:=0) (g:=g) (cap:=cap) (xs:=xs) rfl Tryz.underlying22 Tryz.underlying9 (eG Tryz.type5) (by simp[Tryz.t5]) rfl rfl rfl rfl b) rfl rfl ?_;refine bt rfl ay ?_;refine AK.law (bM.Ae tok rfl rfl rfl rfl rfl rfl rfl) rfl rfl ?_;have e:bb ab (aa (g,cap)) (xs++s) a=.cm (BB 261 5 ab (py (aa (g,cap)) (xs.length+s.length)) (aa (g,cap)) (xs++s) a):=by grind
 rw[e];refine bt rfl ay (AK.dk [0] rfl ?_ rfl rfl rfl AY);simp
theorem SP:Ev X 186 [.e (.one (.ptr 0 0)),dS []] [bb ab af [] 0] (.fa [.one (.c (.int .i64 0)),.one (.c .iI)]) [bb ab af [] 0]:=by refine Ev.bQ Tryz.func186 rfl λa=>?_;refine bt rfl ay ?_;refine AK.cQ (CW (py af 0) af [] 0) [0] rfl ?_;refine bt rfl ay ?_;refine AK.law (bM.fG tok rfl rfl rfl rfl rfl) rfl rfl ?_;refine bt rfl ay ?_;refine AK.law (bM.JM rfl Tryz.underlying22 Tryz.underlying9 (eG Tryz.type5) rfl rfl) rfl rfl ?_;refine bt rfl ay ?_;refine AK.law (bM.Ae tok rfl rfl rfl rfl rfl rfl rfl) rfl rfl ?_;refine bt rfl ay (AK.dk [0] rfl ?_ rfl rfl rfl AY);simp
abbrev dp:D:=.e (.one (.ptr 0 0))
abbrev NM:D:=.e (.one (.ptr 0 1))
def E6(g cap:Nat)(xs:Bs)(c:Nat)(a:xs.length<=9223372036854775807)(b:cap≠0):Ev X 187 [.e (.one (.ptr 0 0))] [bb ab (aa (g,cap)) xs c] (dS xs) [bb ab (aa (g,cap)) xs xs.length]:=by
 refine Ev.bQ Tryz.func187 rfl λd=>?_;refine aX [(1000001,ab)] rfl ay ?_;refine AK.NL jk 10 (λi=>bA i 9) (λi=>[dp,dp,NM,.e (.one (.v (.slice (aa ⟨g,0,af⟩) xs.length cap))),.e (.one (.v (.pointer (aa ⟨g,0,af⟩)))),dp,dp,NM,.e (.one (.v (.slice (aa ⟨g,0,af⟩) xs.length cap))),dI xs.length].getD i .any) (λ(_:Unit) _=>dS xs)
  (λ_=>[bb ab (aa (g,cap)) xs xs.length]) rfl rfl rfl rfl rfl rfl ?_ ?_ ?_ ?_
 .refine⟨.cZ tok bL.nil rfl,.cZ tok bL.nil rfl,.cZ tok bL.nil rfl,?_,?_,.cZ tok bL.nil rfl,.cZ tok bL.nil rfl,.cZ tok bL.nil rfl,?_,?_,ay,ay,ay⟩
  .exact .law (bM.fG (l:=0) tok rfl rfl rfl rfl rfl) rfl
  .exact .law (bM.UW rfl rfl b) rfl
  .exact .law (bM.fG (l:=0) tok rfl rfl rfl rfl rfl) rfl
  .exact .law (bM.vj rfl rfl Tryz.underlying22 rfl a) rfl
 .intro _;refine⟨.cZ tok bL.nil rfl,.cZ tok bL.nil rfl,.cZ tok bL.nil rfl,?_,?_,.cZ tok bL.nil rfl,.cZ tok bL.nil rfl,.cZ tok bL.nil rfl,?_,?_,ay,.cZ tok bL.nil rfl,ay⟩
  .exact .law (bM.fG (l:=0) tok rfl rfl rfl rfl rfl) rfl
  .exact .law (bM.UW rfl rfl b) rfl
  .exact .law (bM.fG (l:=0) tok rfl rfl rfl rfl rfl) rfl
  .exact .law (bM.vj rfl rfl Tryz.underlying22 rfl a) rfl
 .exact .AI (.law (UT (l:=0) rfl Tryz.underlying288 (by kernel_rfl) rfl rfl rfl) rfl)
 .intro _;refine bt rfl ay (AK.dk [0] rfl ?_ rfl rfl rfl AY);simp
def VQ{o:au}{a:aq->D}{σ:List aR}{t ty:aj}{x y:aq}(h:o.op=.binOp .add t x y ty){b:Int}(e:a x=dI 0)(f:a y=dI b)(d:bD .i64 b):bM ag o a σ (dI b) σ:=by have:=bM.binOp (P:=ag) (σ:=σ) h e f (c:=.int .i64 (0+b)) (obs:=[bD .i64 (0+b)]) rfl (by rw[Int.zero_add];exact d);grind
def ef.Q1{ι:Type}{f:aJ}{fn:Func}{c:Code}{args:List D}{σ:List aR}{σ':ι->List aR}{res:ι->D}(d:Tryz.prog.funcs[f]?=aa fn)(b:(fn.name== "runtime.NumGoroutine")=ae)(g:fn.body=aa c)(a:bA args.length fn.ntmps=ab)(h:AK X fn.ntmps (λe φ σ1=>∃j,cw fn σ.length (res j) (σ' j) e φ σ1) [.code c] .normal (ji 0 args) σ):ef X f args σ res σ' :=
 ef.intro d b g (db a) (AK.of_code h)
def OZ:Ev X 187 [.e (.one (.ptr 0 0))] [bb ab af [] 0] (dS []) [bb ab af [] 0]:=by
 refine Ev.bQ Tryz.func187 rfl λa=>?_;refine aX [(1000001,ab)] rfl ay ?_;refine AK.NL jk 10 (λi=>bA i 9) (λi=>[dp,dp,NM,.e (.one (.v (.slice af 0 0))),.e (.one (.v (.pointer af))),dp,dp,NM,.e (.one (.v (.slice af 0 0))),dI (0:Nat)].getD i .any) (λ(_:Unit) _=>dS [])
  (λ_=>[bb ab af [] 0]) rfl rfl rfl rfl rfl rfl ?_ ?_ ?_ ?_
 .refine⟨.cZ tok bL.nil rfl,.cZ tok bL.nil rfl,.cZ tok bL.nil rfl,?_,?_,.cZ tok bL.nil rfl,.cZ tok bL.nil rfl,.cZ tok bL.nil rfl,?_,?_,ay,ay,ay⟩
  .exact .law (bM.fG (l:=0) tok rfl rfl rfl rfl rfl) rfl
  .exact .law (bM.UU rfl rfl) rfl
  .exact .law (bM.fG (l:=0) tok rfl rfl rfl rfl rfl) rfl
  .exact .law (bM.vj rfl rfl Tryz.underlying22 rfl (by decide)) rfl
 .intro _;refine⟨.cZ tok bL.nil rfl,.cZ tok bL.nil rfl,.cZ tok bL.nil rfl,?_,?_,.cZ tok bL.nil rfl,.cZ tok bL.nil rfl,.cZ tok bL.nil rfl,?_,?_,ay,.cZ tok bL.nil rfl,ay⟩
  .exact .law (bM.fG (l:=0) tok rfl rfl rfl rfl rfl) rfl
  .exact .law (bM.UU rfl rfl) rfl
  .exact .law (bM.fG (l:=0) tok rfl rfl rfl rfl rfl) rfl
  .exact .law (bM.vj rfl rfl Tryz.underlying22 rfl (by decide)) rfl
 .exact .AI (.law (bM.UY rfl rfl rfl) rfl)
 .intro _;refine bt rfl ay (AK.dk [0] rfl ?_ rfl rfl rfl AY);simp
def O0(n:Nat)(c:0<n)(b:n<=140737488355328):ef (ι:={p:Nat×Nat // n<=p.2}) X 215 [.e (.one (.ptr 0 0)),dI n] [bb ab af [] 0] (λ_=>.fa []) (λj=>[bb ab (aa j.1) [] 0]):=by
 refine ef.Q1 Tryz.func215 rfl rfl rfl ?_;refine aX [(1000000,ab)] rfl ay ?_;have a:bD .i64 (n:Int):=by simp only[bD];omega
 have v0:D:=.e (.one (.v (.slice af 0 0)));refine AK.NL (ι:={p:Nat×Nat // n<=p.2}) jk 8 (λi=>bA i 7||(bA 9 i&&bA i 13)) (λi=>[dp,dp,NM,.e (.one (.v (.slice af 0 0))),dI (0:Nat),dI 0,dI n,dI n,.any,dp,dp,NM,.e (.one (.v (.slice af 0 0))),dI (0:Nat)].getD i .any)
  (λj i=>[.e (.one (.v (py (aa j.1) n))),.any,.any,.any,.any,.any,.e (.one (.v (.slice (aa ⟨j.1.1,0,af⟩) 0 j.1.2))),.e (.one (.v (.slice (aa ⟨j.1.1,0,af⟩) 0 j.1.2)))].getD (i-8) .any)
  (λj=>[bB ab (.slice af 0 0) (aa j.1) [] 0]) rfl rfl rfl rfl rfl rfl ?_ ?_ ?_ ?_
 .refine⟨.cZ tok bL.nil rfl,.cZ tok bL.nil rfl,.cZ tok bL.nil rfl,?_,?_,?_,.cZ tok bL.nil rfl,?_,ay,.cZ tok bL.nil rfl,.cZ tok bL.nil rfl,.cZ tok bL.nil rfl,?_,?_,ay,ay,ay⟩
  .exact .law (bM.fG (l:=0) tok rfl rfl rfl rfl rfl) rfl
  .exact .law (bM.N4 rfl rfl Tryz.underlying22 rfl (by decide)) rfl
  .exact .law (E7 0 rfl rfl rfl (by simp[bD]) (λw=>rfl) (λw=>rfl)) rfl
  .exact .law (VQ rfl rfl rfl a) rfl
  .exact .law (bM.fG (l:=0) tok rfl rfl rfl rfl rfl) rfl
  .exact .law (bM.vj rfl rfl Tryz.underlying22 rfl (by decide)) rfl
 .intro j;have d:j.1.2≠0:=by grind
  refine⟨.cZ tok bL.nil rfl,.cZ tok bL.nil rfl,.cZ tok bL.nil rfl,?_,?_,?_,.cZ tok bL.nil rfl,?_,ay,.cZ tok bL.nil rfl,.cZ tok bL.nil rfl,.cZ tok bL.nil rfl,?_,?_,?_,.cZ tok bL.nil rfl,ay⟩
  .exact .law (bM.fG (l:=0) tok rfl rfl rfl rfl rfl) rfl
  .exact .law (bM.N4 rfl rfl Tryz.underlying22 rfl (by decide)) rfl
  .exact .law (E7 0 rfl rfl rfl (by simp[bD]) (λw=>rfl) (λw=>rfl)) rfl
  .exact .law (VQ rfl rfl rfl a) rfl
  .exact .law (bM.fG (l:=0) tok rfl rfl rfl rfl rfl) rfl
  .exact .law (bM.vj rfl rfl Tryz.underlying22 rfl (by decide)) rfl
  .exact .law (bM.UX (k:=0) rfl Tryz.underlying22 (eG Tryz.type5) rfl rfl (kD _) j.2 d (du _ _ _)) rfl
 .exact .kT rfl (US (l:=0) (ps:=#[3]) Tryz.underlying22 Tryz.func231 (by kernel_rfl) (by kernel_rfl) (by kernel_rfl) (by kernel_rfl) rfl rfl rfl c b rfl)
 .intro j;refine bt rfl ay ?_;refine AK.law (bM.fG (l:=0) tok rfl rfl rfl rfl rfl) rfl rfl ?_;refine AK.law (bM.copyV rfl Tryz.underlying22 (eG Tryz.type5) rfl rfl) rfl rfl ?_;refine bt rfl ay ?_;refine AK.law (bM.Ae (l:=0) tok rfl rfl rfl rfl rfl rfl rfl) rfl rfl ?_;refine bt rfl ay ?_;exact⟨j,cw.pO [0] rfl ay rfl rfl rfl AY⟩
def G4(n:Nat)(b:0<n)(a:n<=140737488355328):ef (ι:={p:Nat×Nat // n<=p.2}) X 185 [.e (.one (.ptr 0 0)),dI n] [bb ae af [] 0] (λ_=>.fa []) (λj=>[bb ab (aa j.1) [] 0]):=by
 refine ef.Q1 Tryz.func185 rfl rfl rfl ?_;refine bt rfl ay ?_;refine AK.cQ (CV (py af 0) rfl af [] 0) [0] rfl ?_;refine aX [(7,ae),(1000003,ab)] rfl ?_ ?_
 .simp
 refine AK.NL jk 4 (λi=>bA i 3||(bA 5 i&&bA i 9)||aB i 11) (λi=>[dp,dp,NM,.e (.one (.v (.slice af 0 0))),.any,dp,dp,NM,.e (.one (.v (.slice af 0 0))),dI (0:Nat),.any,dI n].getD i .any)
  (λ(_:Unit) i=>[dI (0:Nat),.any,.any,.any,.any,.any,dI (0-0),.any,dB ab].getD (i-4) .any)
  (λ_=>[bb ab af [] 0]) rfl rfl rfl rfl rfl rfl ?_ ?_ ?_ ?_
 .refine⟨.cZ tok bL.nil rfl,.cZ tok bL.nil rfl,.cZ tok bL.nil rfl,?_,ay,.cZ tok bL.nil rfl,.cZ tok bL.nil rfl,.cZ tok bL.nil rfl,?_,?_,ay,.cZ tok bL.nil rfl,ay,ay⟩
  .exact .law (bM.fG (l:=0) tok rfl rfl rfl rfl rfl) rfl
  .exact .law (bM.fG (l:=0) tok rfl rfl rfl rfl rfl) rfl
  .exact .law (bM.vj rfl rfl Tryz.underlying22 rfl (by decide)) rfl
 .intro _;refine⟨.cZ tok bL.nil rfl,.cZ tok bL.nil rfl,.cZ tok bL.nil rfl,?_,ay,.cZ tok bL.nil rfl,.cZ tok bL.nil rfl,.cZ tok bL.nil rfl,?_,?_,?_,.cZ tok bL.nil rfl,?_,ay⟩
  .exact .law (bM.fG (l:=0) tok rfl rfl rfl rfl rfl) rfl
  .exact .law (bM.fG (l:=0) tok rfl rfl rfl rfl rfl) rfl
  .exact .law (bM.vj rfl rfl Tryz.underlying22 rfl (by decide)) rfl
  .exact .eval (ds:=[]) tok bL.nil (obs:=[bD .i64 (((0:Nat):Int)-((0:Nat):Int))]) rfl (by simp[bD])
  .exact .eval (ds:=[(21,ab)]) tok bL.nil (obs:=[decide ((0:Int)-0<(n:Int))=ab]) rfl (by simp;omega)
 .exact .AI (.law (bM.N4 rfl rfl Tryz.underlying22 rfl (by decide)) rfl)
 .intro _;refine bt rfl ay ?_;refine AK.cP (O0 n b a) [0] rfl (λ_=>rfl) λj=>?_;refine bt rfl ay ?_;exact⟨j,cw.pO [0] rfl ay rfl rfl rfl AY⟩
def K4:Ev X 185 [.e (.one (.ptr 0 0)),dI (0:Nat)] [bb ae af [] 0] (.fa []) [bb ab af [] 0]:=by
 refine Ev.bQ Tryz.func185 rfl λa=>?_;refine bt rfl ay ?_;refine AK.cQ (CV (py af 0) rfl af [] 0) [0] rfl ?_;refine aX [(7,ae),(1000003,ab)] rfl ?_ ?_
 .simp
 refine AK.NL jk 4 (λi=>bA i 3||(bA 5 i&&bA i 9)||aB i 11) (λi=>[dp,dp,NM,.e (.one (.v (.slice af 0 0))),.any,dp,dp,NM,.e (.one (.v (.slice af 0 0))),dI (0:Nat),.any,dI (0:Nat)].getD i .any)
  (λ(_:Unit) i=>[dI (0:Nat),.any,.any,.any,.any,.any,dI (0-0),.any,dB ae].getD (i-4) .any)
  (λ_=>[bb ab af [] 0]) rfl rfl rfl rfl rfl rfl ?_ ?_ ?_ ?_
 .refine⟨.cZ tok bL.nil rfl,.cZ tok bL.nil rfl,.cZ tok bL.nil rfl,?_,ay,.cZ tok bL.nil rfl,.cZ tok bL.nil rfl,.cZ tok bL.nil rfl,?_,?_,ay,.cZ tok bL.nil rfl,ay,ay⟩
  .exact .law (bM.fG (l:=0) tok rfl rfl rfl rfl rfl) rfl
  .exact .law (bM.fG (l:=0) tok rfl rfl rfl rfl rfl) rfl
  .exact .law (bM.vj rfl rfl Tryz.underlying22 rfl (by decide)) rfl
 .intro _;refine⟨.cZ tok bL.nil rfl,.cZ tok bL.nil rfl,.cZ tok bL.nil rfl,?_,ay,.cZ tok bL.nil rfl,.cZ tok bL.nil rfl,.cZ tok bL.nil rfl,?_,?_,?_,.cZ tok bL.nil rfl,?_,ay⟩
  .exact .law (bM.fG (l:=0) tok rfl rfl rfl rfl rfl) rfl
  .exact .law (bM.fG (l:=0) tok rfl rfl rfl rfl rfl) rfl
  .exact .law (bM.vj rfl rfl Tryz.underlying22 rfl (by decide)) rfl
  .exact .eval (ds:=[]) tok bL.nil (obs:=[bD .i64 (((0:Nat):Int)-((0:Nat):Int))]) rfl (by simp[bD])
  .exact .eval (ds:=[(21,ae)]) tok bL.nil (obs:=[decide ((0:Int)-0<((0:Nat):Int))=ae]) rfl (by simp)
 .exact .AI (.law (bM.N4 rfl rfl Tryz.underlying22 rfl (by decide)) rfl)
 .intro _;refine bt rfl ay ?_;exact cw.pO [0] rfl ay rfl rfl rfl AY
def K5{o:au}{a:aq->D}{σ:List aR}(h:o.op=.alloc 261):bM ag o a σ (.e (.one (.ptr σ.length 0))) (σ++[bb ae af [] 0]) :=
 bM.RM h (λw=>by simp[zeroValue,typeInfo,eG Tryz.type261,Tryz.t261]) (λw es=>by simp)
def K6{o:au}{n:aq->D}{σ:List aR}{x y z:aq}{p:Array aj}{a b c:Int}(m:Int)(h:o.op=.call {callee:=.builtin .min,args:=#[x,y,z],argTypes:=p})(r:n x=dI a)(v:n y=dI b)(u:n z=dI c)(w:min (min a b) c=m)(t:bD .i64 m):bM ag o n σ (dI m) σ:=by
 refine .quiet λs q A d=>?_;have i:=d x;have k:=d y;have j:=d z;rw[r]at i;rw[v]at k;rw[u]at j;replace i:=e9 i;replace k:=e9 k;replace j:=e9 j;generalize l:q x=vx at i;generalize f:q y=vy at k;generalize g:q z=vz at j;cases i;cases k;cases j;have e:(if c<(if b<a then b else a)then c else if b<a then b else a)=m:=by grind
 exact⟨.int .i64 m,by simp[aw,h,resolve,invoke,builtin,l,f,g,Builtin.min_,Builtin.min2,e],.int t,by simp[aw,h,resolve,invoke,builtin,l,f,g,Builtin.min_,Builtin.min2]⟩
def K7(n:Nat)(p:2<=n)(o:n<=3):Ev X 159 [dS [46],dI n] [] (dS (List.replicate n 46)) []:=by
 refine Ev.bQ Tryz.func159 rfl λl=>?_;have a:bL X [(204,SQ)]:=.cons t204 .nil;refine bn a [(13,ae),(15,ae),(18,ae),(30,ae),(33,ae),(40,ae),(44,ae),(45,ae),(46,ae),(47,ae),(48,ae),(96,ae),(1000035,ab)] rfl ?_ ?_
 .have h:(n:Int)=2∨(n:Int)=3:=by omega
  have e:(jb [46] 0).toNat=46:=rfl;simp[bD,e,h];omega
 refine AK.region ?_;refine AK.law (K5 rfl) rfl rfl ?_;refine cG a rfl ay ?_;refine AK.cP (G4 n (by omega) (by omega)) [0] rfl (λ_=>rfl) λj=>?_;obtain⟨⟨g,cap⟩,b⟩:=j;have b:n<=cap:=b;refine cG a rfl ay ?_;refine AK.cQ (E5 g cap [] [46] 0 (by simp) (by simp;omega)) [0] rfl ?_;refine cG a rfl ay ?_;refine AK.kg (λk=>1<=k/\k<=n) (λk:Nat=>[(0,dS [46]),(7,dI n),(8,dI n),(9,.e (.one (.ptr 0 0)))]) (λk=>[bb ab (aa (g,cap)) (List.replicate k 46) (k-1)]) (λk=>n-k) 1 rfl ?_ rfl ?_ ⟨by omega,by omega⟩ ?_
 .simp
 .exact az.cat.2 ⟨rfl,ay⟩
 rintro k ⟨c,d⟩;refine cG a rfl ay ?_;refine AK.cQ (AZ ab (aa (g,cap)) (List.replicate k 46) (k-1) (by simp;omega) (by simp)) [0] rfl ?_;by_cases hk:k<n
 .refine bn a [(113,ab)] rfl ?_ ?_
  .simp;omega
  refine AK.cQ (AZ ab (aa (g,cap)) (List.replicate k 46) (k-1) (by simp;omega) (by simp)) [0] rfl ?_;refine cG a rfl ?_ ?_
  .simp[bD];omega
  refine AK.cQ (AZ ab (aa (g,cap)) (List.replicate k 46) (k-1) (by simp;omega) (by simp)) [0] rfl ?_;refine cG a rfl ay ?_;refine AK.law (K6 1 rfl rfl rfl rfl (by simp;omega) (by simp[bD])) rfl rfl ?_;refine cG a rfl ay ?_;refine AK.cQ (E6 g cap (List.replicate k 46) (k-1) (by simp;omega) (by omega)) [0] rfl ?_;have f:sS (List.replicate k (46:UInt8)) af (aa 1)=[46]:=by
   obtain⟨m,rfl⟩:∃m,k=m+1:=⟨k-1,by omega⟩
   simp[sS,List.replicate_succ]
  refine cG a rfl ?_ ?_
  .simp;omega
  rw[f];refine AK.cQ (E5 g cap (List.replicate k 46) [46] (List.replicate k 46).length (by simp) (by simp;omega)) [0] rfl ?_;have i:List.replicate k (46:UInt8)++[46]=List.replicate (k+1) 46:=by rw[List.replicate_succ']
  rw[i];refine cG a rfl ay (AK.gb (k+1) rfl ?_ rfl ?_ ⟨by omega,by omega⟩ (by omega))
  .simp
  .refine az.cat.2 ⟨?_,ay⟩;simp
 .refine bn a [(113,ae)] rfl ?_ (AK.leave rfl rfl ?_)
  .simp;omega
  have e:k=n:=by omega
  subst e;refine cG a rfl ay ?_;refine AK.cQ (E6 g cap (List.replicate k 46) (k-1) (by simp;omega) (by omega)) [0] rfl ?_;exact cG a rfl ay (AK.bz rfl)
def Zr:er X 159 Ik:=VR (K7 2 (by omega) (by omega)) (K7 3 (by omega) (by omega))
def O1:er X 126 nY:=VS Zr
def Room(bf:Option (Nat×Nat))(n:Nat):Prop:=match bf with|none=>n=0|some (_,cap)=>n<=cap/\0<cap
def _root_.Go.AM.ef.re{P:ar}{ι b:Type}{X:Cx P}{f:aJ}{args:List D}{σ:List aR}{res:ι->D}{σ':ι->List aR}{a:b->D}{σ2:b->List aR}(h:ef X f args σ res σ')(g:ι->b)(d:∀i,a (g i)=res i)(c:∀i,σ2 (g i)=σ' i):ef X f args σ a σ2 :=
 ⟨h.1,λs vs h1 h2 S cs hS=>h.2 s vs h1 h2 S cs λi fr v s' k1 k2 k3 k4=>hS (g i) fr v s' k1 (by grind) (by grind) (by grind)⟩
def K8(n:Nat)(a:n<=140737488355328):ef (ι:={bf:Option (Nat×Nat) // Room bf n}) X 185 [.e (.one (.ptr 0 0)),dI n] [bb ae af [] 0] (λ_=>.fa []) (λj=>[bb ab j.1 [] 0]):=by
 by_cases h:n=0
 .subst h;exact K4.tQ.re (λ_=>⟨af,rfl⟩) (λ_=>rfl) (λ_=>rfl)
 .exact(G4 n (by omega) a).re (λp=>⟨aa p.1,p.2,by grind⟩) (λ_=>rfl) (λ_=>rfl)
def E8(bf:Option (Nat×Nat))(xs s:Bs)(a:s.length<=9223372036854775807)(h:Room bf (xs.length+s.length)):Ev X 186 [.e (.one (.ptr 0 0)),dS s] [bb ab bf xs 0] (.fa [.one (.c (.int .i64 s.length)),.one (.c .iI)]) [bb ab bf (xs++s) 0]:=by
 cases bf with
 |none =>
  have h:xs.length+s.length=0:=h;grind[SP]
 |some p=>exact E5 p.1 p.2 xs s 0 a h.1
def shown(bf:Option (Nat×Nat))(xs:Bs):Nat:=match bf with|none=>0|some _=>xs.length
def O2(bf:Option (Nat×Nat))(xs:Bs)(a:xs.length<=9223372036854775807)(h:Room bf xs.length):Ev X 187 [.e (.one (.ptr 0 0))] [bb ab bf xs 0] (dS xs) [bb ab bf xs (shown bf xs)]:=by
 cases bf with
 |none =>
  have h:xs.length=0:=h;have b:xs=[]:=jv h;subst b;exact OZ
 |some p=>exact E6 p.1 p.2 xs 0 a (by have:=h.2;omega)
def G5(l:List Bs)(i:Nat):Bs:=(l.take i).flatten
def K9{l:List Bs}{i:Nat}(h:i<l.length):G5 l (i+1)=G5 l i++l.getD i []:=by unfold G5;grind[List.take_add_one]
def VT{l:List Bs}:G5 l l.length=l.flatten:=by simp[G5]
def La{l:List Bs}(i:Nat):(G5 l i).length<=l.flatten.length:=by
 have e:l.flatten=(l.take i).flatten++(l.drop i).flatten:=by grind[List.take_append_drop]
 rw[e,cX];simp only[G5];omega
def O3(l:List Bs)(r:l.flatten.length<=140737488355328):Ev X 146 [cS.sl l,dS []] [] (dS l.flatten) []:=by
 refine Ev.bQ Tryz.func146 rfl λq=>?_;have g:=q.sl 0 rfl;by_cases m:l=[]
 .subst m;refine aX [(14,ab)] rfl ?_ (AK.bz rfl)
  .simp
 by_cases s:l.length=1
 .obtain⟨x,rfl⟩:=List.length_eq_one_iff.1 s;refine aX [(14,ae),(16,ab)] rfl ?_ (AK.bz rfl ?_)
  .simp
  .simp[cS,mI.fn]
 have v:2<=l.length:=by
  have:l.length≠0:=by grind
  omega
 refine aX [(14,ae),(16,ae),(22,ae)] rfl ?_ ?_
 .simp[m];omega
 refine AK.kg (λi=>i<=l.length) (λi:Nat=>[(0,cS.sl l),(1,dS []),(5,dI (G5 l i).length),(39,cS.sl l),(40,dI l.length),(41,dI i)]) (λ_=>[]) (λi=>l.length-i) 0 rfl ?_ rfl ay (by omega) ?_
 .simp[G5]
 .intro i hi;have u:=La (l:=l) i;by_cases h:i<l.length
  .have d:=La (l:=l) (i+1);rw[K9 h,cX]at d;refine aX [(42,ab),(49,ae)] rfl ?_ (AK.gb (i+1) rfl ?_ rfl ay (by omega) (by omega))
   .have e:(l.getD (i:Int).toNat cS.cd)=l.getD i []:=rfl;simp only[az,bD,e];grind
   .have e:(l.getD (i:Int).toNat cS.cd)=l.getD i []:=rfl;rw[K9 h];rw[e];simp
  .have e:i=l.length:=by omega
   subst e;refine aX [(42,ae),(1000018,ab)] rfl ?_ (AK.leave rfl rfl ?_)
   .simp
   refine aX [(1000018,ab)] rfl ay ?_;refine AK.region ?_;refine AK.law (K5 rfl) rfl rfl ?_;refine dm rfl ay ?_;rw[VT];refine AK.cP (K8 l.flatten.length r) [0] rfl (λ_=>rfl) λj=>?_;obtain⟨bf,b⟩:=j;refine dm rfl ?_ ?_
   .exact⟨by omega,show(0:Int)<(l.length:Int) by omega⟩
   have room:∀n,n<=l.flatten.length->Room bf n:=λn t=>by
    cases bf with
    |none =>
     have:l.flatten.length=0:=b;grind
    |some p=>exact⟨iZ t b.1,b.2⟩
   have k:G5 l 1=l.getD 0 []:=by rw[K9 (by omega)];simp[G5]
   have f:=La (l:=l) 1;rw[k]at f;refine AK.cQ (E8 bf [] (l.getD 0 []) (by omega) (room _ (by grind))) [0] rfl ?_;refine dm rfl ?_ ?_
   .exact⟨by omega,show(1:Int)<=(l.length:Int) by omega⟩
   refine AK.kg (λi=>i+1<=l.length) (λi:Nat=>[(1,dS []),(8,.e (.one (.ptr 0 0))),(63,.e (.one (.c (.sl ae 1 (l.length-1) (mf 1 (cS.fn l)))))),(64,dI (l.length-1:Nat)),(65,dI i)]) (λi=>[bb ab bf (G5 l (i+1)) 0]) (λi=>l.length-i) 0 rfl ?_ rfl ?_ (by omega) ?_
   .simp[dj]
   .refine az.cat.2 ⟨?_,ay⟩;rw[bF,k];exact rfl
   intro i hi;have o:=La (l:=l) (i+1);by_cases h:i+1<l.length
   .have a:=La (l:=l) (i+2);rw[K9 h,cX]at a;refine aX [(66,ab)] rfl ?_ ?_
    .exact⟨by omega,by omega,dc (by omega)⟩
    refine AK.cQ (E8 bf (G5 l (i+1)) [] (by simp) (room _ (by grind))) [0] rfl ?_;rw[iD];refine bt rfl ay ?_;refine AK.cQ (E8 bf (G5 l (i+1)) (l.getD (1+i) []) (by grind) (room _ (by grind))) [0] rfl ?_;refine bt rfl ?_ (AK.gb (i+1) rfl ?_ rfl ?_ (by omega) (by omega))
    .simp only[az,bD];omega
    .simp
    .refine az.cat.2 ⟨?_,ay⟩;rw[K9 h,Nat.add_comm 1 i];exact rfl
   .have e:i+1=l.length:=by omega
    refine aX [(66,ae)] rfl ?_ (AK.leave rfl rfl ?_)
    .exact iC (by omega)
    rw[e,VT];refine bt rfl ay ?_;refine AK.cQ (O2 bf l.flatten (by omega) (room _ (by omega))) [0] rfl ?_;exact bt rfl ay (AK.bz rfl)
def Ip{s:Bs}(h:cj s=ab)(i:Nat)(hi:i<s.length):97<=cT s i/\cT s i<=122:=by have a:=bC.1 h (s.getD i 0) (by grind);simp only[eZ,bR,a9]at a;unfold cT;omega
def C4(s:Bs)(i:Nat)(a:cj s=ab)(k:3<=i)(hi:i<=s.length)(g:s.length<=4000000):Ev X 165 [dS s,dI i] [] (dB (jM s i)) []:=by
 refine Ev.bQ Tryz.func165 rfl λf=>?_;have e:=Ip a (i-1) (by omega);have h:=Ip a (i-2) (by omega);have j:=Ip a (i-3) (by omega);have b:((jb s ((i:Int)-1)).toNat:Int)=cT s (i-1):=by grind[cU]
 have c:((jb s ((i:Int)-2)).toNat:Int)=cT s (i-2):=by grind[cU]
 have d:((jb s ((i:Int)-3)).toNat:Int)=cT s (i-3):=by grind[cU]
 refine bt rfl ?_ (AK.bz rfl ?_)
 .simp only[az,bD,b,c,d];omega
 .simp only[az,az.cat,b,c,d,jM,dl,aE];grind
def Iq:er X 165 (pj aS aI (λs i=>dB (jM s i.toNat)) λs i=>[cj s=ab,3<=i,i<=s.length,s.length<=4000000]):=.tf λs i h=>by
 obtain⟨b,d,c,a⟩:=h;obtain⟨m,rfl⟩:∃m:Nat,i=m:=⟨i.toNat,by omega⟩
 exact C4 s m b (by omega) (by omega) a
def xJ{o:au}{k:aq->D}{σ:List aR}{x y:aq}{j:Array aj}{a b:Int}(m:Int)(h:o.op=.call {callee:=.builtin .min,args:=#[x,y],argTypes:=j})(n:k x=dI a)(q:k y=dI b)(r:min a b=m)(p:bD .i64 m):bM ag o k σ (dI m) σ:=by
 refine .quiet λs l t f=>?_;have d:=f x;have g:=f y;rw[n]at d;rw[q]at g;replace d:=e9 d;replace g:=e9 g;generalize i:l x=vx at d;generalize c:l y=vy at g;cases d;cases g;have e:(if b<a then b else a)=m:=by grind
 exact⟨.int .i64 m,by simp[aw,h,resolve,invoke,builtin,i,c,Builtin.min_,Builtin.min2,e],.int p,by simp[aw,h,resolve,invoke,builtin,i,c,Builtin.min_,Builtin.min2]⟩
theorem Lp{t:Bs}{f j:Nat}(h:t.length<=f+3+j)(b:j<=5):uj t f (5-j)=min (f+8) t.length:=by
 rcases cM j 5 with a|a
 .obtain⟨k,hk⟩:∃k,5-j=k+1:=⟨4-j,by omega⟩
  rw[hk];simp only[uj];grind
 .rw[show 5-j=0 by omega];rfl
def Ir(t:Bs)(f:Nat)(l:cj t=ab)(n:f<=t.length)(q:t.length<=4000000):Ev X 138 [dS t,dI f] [] (dI (cutAt t f)) []:=by
 refine Ev.bQ Tryz.func138 rfl λp=>?_;have a:bL X [(165,pj aS aI (λs i=>dB (jM s i.toNat)) λs i=>[cj s=ab,3<=i,i<=s.length,s.length<=4000000])]:=.cons Iq .nil;refine b8 a rfl ?_ ?_
 .simp[bD];omega
 refine AK.kg (λj=>j<=5/\uj t f (5-j)=cutAt t f) (λj:Nat=>[(0,dS t),(1,dI f),(5,dI (f+3+j))]) (λ_=>[]) (λj=>5-j) 0 rfl ?_ rfl ay ⟨by omega,rfl⟩ ?_
 .simp
 rintro j ⟨o,b⟩;by_cases h:j<5/\f+3+j<t.length
 .obtain⟨k,hk⟩:∃k,5-j=k+1:=⟨4-j,by omega⟩
  have d:f+(7-k)=f+3+j:=by omega
  rw[hk]at b;simp only[uj,d]at b;rw[aY (by omega)]at b;have e:((f:Int)+3+j).toNat=f+3+j:=by omega
  cases c:jM t (f+3+j)with
  |true =>
   rw[c,bl rfl]at b;refine aW a [(11,ab),(16,ab),(22,ab)] rfl ?_ (AK.ir (cw.zero rfl ?_))
   .simp only[az,bD,e,c,l,a9,eq_self,aG,aE];omega
   .simp[<-b]
  |false =>
   rw[c,aY (by simp)]at b;refine aW a [(11,ab),(16,ab),(22,ae)] rfl ?_ (AK.gb (j+1) rfl ?_ rfl ay ⟨by omega,by grind⟩ (by omega))
   .simp only[az,bD,e,c,l,a9,eq_self,aG,aE];omega
   .simp;omega
 .have e:cutAt t f=min (f+8) t.length:=by
   rw[<-b];rcases cM j 5 with g|g
   .grind [Lp]
   .rw[show 5-j=0 by omega];rfl
  have m:bD .i64 ((min (f+8) t.length:Nat):Int):=by simp only[bD];omega
  rcases cM j 5 with g|g
  .refine aW a [(11,ab),(16,ae)] rfl ?_ (AK.leave rfl rfl ?_)
   .simp only[az,bD,a9,bS];omega
   refine b8 a rfl ?_ ?_
   .simp only[az,bD];omega
   refine AK.law (xJ ((min (f+8) t.length:Nat):Int) rfl rfl rfl (by omega) m) rfl rfl ?_;refine b8 a rfl ay (AK.bz rfl ?_);simp[e]
  .refine aW a [(11,ae)] rfl ?_ (AK.leave rfl rfl ?_)
   .simp only[az,bD,a9,bS];omega
   refine b8 a rfl ?_ ?_
   .simp only[az,bD];omega
   refine AK.law (xJ ((min (f+8) t.length:Nat):Int) rfl rfl rfl (by omega) m) rfl rfl ?_;refine b8 a rfl ay (AK.bz rfl ?_);simp[e]
def S1:er X 138 (pj aS aI (λs i=>dI (cutAt s i.toNat)) λs i=>[cj s=ab,0<=i,i<=s.length,s.length<=4000000]):=.tf λs i h=>by
 obtain⟨b,d,c,a⟩:=h;obtain⟨m,rfl⟩:∃m:Nat,i=m:=⟨i.toNat,by omega⟩
 exact Ir s m b (by omega) a
abbrev Q4(t:Bs):C:=.fn (.func 137) [] [.rp [.str t]]
theorem Pa(t:Bs):Ev X 91 [dS t] [] (.e (.one (.c (Q4 t)))) []:=by refine Ev.bQ Tryz.func91 rfl λa=>?_;refine oK [] 5 rfl ay ?_;refine AK.freeze 1 0 rfl rfl rfl ?_;exact bt rfl ay (AK.bz rfl)
def Is{T:Type}(text:Bs)(m:cj text=ab)(p:text.length<=4000000){N0:Nat}{φ0:Fr}{g:Loop}(b B1 B2:T->aR)(R:Nat->T->Prop)(d:T)(o:R 0 d)(hB:∀t,b t≠.qY/\B1 t≠.qY/\B2 t≠.qY)(rR:∀f t,f<text.length->R f t->Yields (ι:={a:T // R (cutAt text f) a}) X 3 [dI f,dI (cutAt text f)] [b t,B1 t,B2 t,.loop N0 φ0 g] ab (λa=>[b a.1,B1 a.1,B2 a.1,.loop N0 φ0 g])):
  ef (ι:={t:T // R text.length t}) X 137 [.e (.one (.ref 3)),.e (.one (.c (.rp [.str text])))] [b d,B1 d,B2 d,.loop N0 φ0 g] (λ_=>.fa []) (λi=>[b i.1,B1 i.1,B2 i.1,.loop N0 φ0 g]):=by
 refine ef.EL Tryz.func137 rfl rfl rfl (AK.of_code ?_);have j:bL X [(138,pj aS aI (λs i=>dI (cutAt s i.toNat)) λs i=>[cj s=ab,0<=i,i<=s.length,s.length<=4000000])]:=.cons S1 .nil;refine b8 j rfl ay ?_;show AW X _ (.loop _) _ _ _;refine AW.loop (S:=T×Nat) (λx=>x.2<=text.length/\R x.2 x.1) (λx=>[(0,.e (.one (.ref 3))),(1,.e (.one (.c (.rp [.str text])))),(3,dI x.2)]) (λx=>[b x.1,B1 x.1,B2 x.1,.loop N0 φ0 g]) (λx=>text.length-x.2) (d,0) ⟨kD _,o⟩ (cD rfl (by simp)) rfl ?_;rintro⟨t,f⟩ ⟨n,k⟩;simp only at n k;refine AK.of_code ?_;by_cases h:f<text.length
 .have l:=mv text f h;refine aW j [(8,ab)] rfl ?_ ?_
  .simp only[az,m,a9,eq_self,aG,aE];omega
  refine AK.yield (rR f t h k) rfl rfl rfl rfl rfl rfl λa=>?_;refine aW j [(16,ae)] rfl ?_ ?_
  .simp
  refine⟨(a.1,cutAt text f),⟨l.2.1,a.2⟩,?_,cD rfl (by simp),rfl⟩;grind
 .have e:f=text.length:=by omega
  subst e;refine aW j [(8,ae)] rfl ?_ ?_
  .simp
  refine AK.EP rfl rfl ?_;exact⟨⟨t,k⟩,.inr rfl,rfl,mn (hB t).1 (mn (hB t).2.1 (mn (hB t).2.2 rfl)),[],.fa [],[],rfl,rfl,rfl,ay⟩
def Ua{P:ar}{o:au}{g:aq->D}{σ:List aR}{op:BinOp}{t ty:aj}{x:aq}(h:o.op=.binOp op t x (.const (.pointer af)) ty){e:aj}(i:P.underlying t=aa (.pointer e)){c:Bool}{l:Nat}{E:aj}{lt rt:Tr}{a b:Int}(k:g x=.e (.one (.ref l)))(m:dC l σ=aa (.cm (nH E (.nd lt a b rt))))(y:g (.const (.pointer af))=.e (.one (.c .fz)))(q:jm op ae=aa c):bM P o g σ (.e (.one (.c (.bool c)))) σ:=by
 refine xH h i (b:=ae) ?_ q;intro s u v n j d;rw[k]at j;rw[y]at d;replace d:=e9 d;cases d;obtain⟨_,L,r,rfl,_⟩:=(j:gB σ s u (.ref l));obtain⟨_,⟨b,_,_,_,_,p,_⟩,_⟩:=n.box l _ L (b9 m) r;rw[p];have z:(Op.equal t (.pointer (aa ⟨b,0,af⟩)) (.pointer af)).run P s.w=.ok ae s.w:=by show(aZ (9999+1) t _ _).run P s.w=_;unfold aZ;simp[underlying,i]
 have f:∀es,(Op.equal t (.pointer (aa ⟨b,0,af⟩)) (.pointer af)).events P s.w es=es:=λes=>by show(aZ (9999+1) t _ _).events P s.w es=es;unfold aZ;simp[underlying,i]
 exact⟨_,af,rfl,rfl,rfl,by cases op<;>simp[eqGuard],λes=>by cases op<;>simp[eqGuard],z,f⟩
abbrev P6(a b:Int):D:=.e (.agg [.c (.int .i64 a),.c (.int .i64 b)])
abbrev JA:aj:=151
def BD(a b:Int)(t:Tr):∃l x y r,t.put a b=.nd l x y r:=by
 cases t with
 |nil=>exact⟨_,_,_,_,rfl⟩
 |nd l x y r =>
  simp only[Tr.put];split
  .grind
  split<;>exact⟨_,_,_,_,rfl⟩
def MX:∀(ks:List Nat)(j:Nat),j<0->ks[j]?=aa j:=λ_ j a=>absurd a (by omega)
def kq:∀j,j<1->([0]:List Nat)[j]?=aa j:=λj a=>by grind
def BE(a b:Int)(r:bD .i64 a)(u:bD .i64 b):∀t:Tr,Ev X 90 [.e (.one (zd t 0)),P6 a b] (vY JA t) (.e (.one (.ref 0))) [.cm (nH JA (t.put a b))]
 |.nil=>by refine Ev.bQ Tryz.func90 rfl λv=>?_;refine bt rfl ay ?_;refine AK.law (rP rfl Tryz.underlying85 rfl rfl rfl) rfl rfl ?_;refine bt rfl ay ?_;refine AK.jG 4 1 0 0 (lt:=.nil) (rt:=.nil) rfl rfl (λh=>absurd rfl h) (λh=>absurd rfl h) (λh=>absurd rfl h) ?_;exact AK.dk [1] rfl (by simp) rfl rfl rfl (MX _)
 |.nd lt x y rt=>by
  have o:=BE a b r u lt;have i2:=BE a b r u rt;obtain⟨k,f,g,i,s⟩:=BD a b lt;obtain⟨m,c,d,l,q⟩:=BD a b rt;have p:(Tr.nd lt x y rt).put a b=if a<x then .nd (lt.put a b) x y rt else if x<a then .nd lt x y (rt.put a b)else .nd lt a b rt:=rfl;rw[p];rw[s]at o⊢;rw[q]at i2⊢;have c1:bL X [(90,zh [.e (.one (zd lt 0)),P6 a b] (vY JA lt) (.e (.one (.ref 0))) [.cm (nH JA (.nd k f g i))])]:=.cons (C3 o) .nil;have c2:bL X [(90,zh [.e (.one (zd rt 0)),P6 a b] (vY JA rt) (.e (.one (.ref 0))) [.cm (nH JA (.nd m c d l))])]:=.cons (C3 i2) .nil;clear o i2 p s q;refine Ev.bQ Tryz.func90 rfl λv=>?_;refine bt rfl ay ?_;refine AK.law (Ua rfl Tryz.underlying85 rfl rfl rfl rfl) rfl rfl ?_;refine bt rfl ay ?_;refine AK.KZ 0 0 rfl rfl ?_;by_cases j:a<x
  .rw[bl j];cases lt<;>cases rt<;>refine bn c1 [(15,ab)] rfl (by simp only[az,a9,aG,aE];and_intros<;>first|rfl|exact j) ?_
   .refine AK.jG 4 0 2 9 (lt:=.nd k f g i) (rt:=.nil) rfl rfl (λ_=>rfl) (λh=>absurd rfl h) (λ_ h=>absurd rfl h) ?_;exact AK.dk [0] rfl (by simp) rfl rfl rfl kq
   .refine AK.jG 4 0 3 2 (lt:=.nd k f g i) (rt:=_) rfl rfl (λ_=>rfl) (λ_=>rfl) (λ_ _=>by decide) ?_;exact AK.dk [0] rfl (by simp) rfl rfl rfl kq
   .refine AK.jG 4 0 2 9 (lt:=.nd k f g i) (rt:=.nil) rfl rfl (λ_=>rfl) (λh=>absurd rfl h) (λ_ h=>absurd rfl h) ?_;exact AK.dk [0] rfl (by simp) rfl rfl rfl kq
   .refine AK.jG 4 0 2 3 (lt:=.nd k f g i) (rt:=_) rfl rfl (λ_=>rfl) (λ_=>rfl) (λ_ _=>by decide) ?_;exact AK.dk [0] rfl (by simp) rfl rfl rfl kq
  rw[aY j];by_cases n:x<a
  .rw[bl n];cases lt<;>cases rt<;>refine bn c2 [(15,ae),(33,ab)] rfl (by simp only[az,a9,bS,aG,aE];and_intros<;>first|rfl|exact j|exact n) ?_
   .refine AK.jG 4 0 9 2 (lt:=.nil) (rt:=.nd m c d l) rfl rfl (λh=>absurd rfl h) (λ_=>rfl) (λh=>absurd rfl h) ?_;exact AK.dk [0] rfl (by simp) rfl rfl rfl kq
   .refine AK.jG 4 0 9 2 (lt:=.nil) (rt:=.nd m c d l) rfl rfl (λh=>absurd rfl h) (λ_=>rfl) (λh=>absurd rfl h) ?_;exact AK.dk [0] rfl (by simp) rfl rfl rfl kq
   .refine AK.jG 4 0 2 3 (lt:=_) (rt:=.nd m c d l) rfl rfl (λ_=>rfl) (λ_=>rfl) (λ_ _=>by decide) ?_;exact AK.dk [0] rfl (by simp) rfl rfl rfl kq
   .refine AK.jG 4 0 2 3 (lt:=_) (rt:=.nd m c d l) rfl rfl (λ_=>rfl) (λ_=>rfl) (λ_ _=>by decide) ?_;exact AK.dk [0] rfl (by simp) rfl rfl rfl kq
  .rw[aY n];cases lt<;>cases rt<;>refine bO [(15,ae),(33,ae)] rfl (by simp only[az,bS,aG,aE];and_intros<;>first|rfl|exact j|exact n) ?_
   .refine AK.jG 4 0 9 9 (lt:=.nil) (rt:=.nil) rfl rfl (λh=>absurd rfl h) (λh=>absurd rfl h) (λh=>absurd rfl h) ?_;exact AK.dk [0] rfl (by simp) rfl rfl rfl kq
   .refine AK.jG 4 0 9 2 (lt:=.nil) (rt:=_) rfl rfl (λh=>absurd rfl h) (λ_=>rfl) (λh=>absurd rfl h) ?_;exact AK.dk [0] rfl (by simp) rfl rfl rfl kq
   .refine AK.jG 4 0 2 9 (lt:=_) (rt:=.nil) rfl rfl (λ_=>rfl) (λh=>absurd rfl h) (λ_ h=>absurd rfl h) ?_;exact AK.dk [0] rfl (by simp) rfl rfl rfl kq
   .refine AK.jG 4 0 2 3 (lt:=_) (rt:=_) rfl rfl (λ_=>rfl) (λ_=>rfl) (λ_ _=>by decide) ?_;exact AK.dk [0] rfl (by simp) rfl rfl rfl kq
end
section
open Go.Proofs Go.Conc Go.Conc.Lib Go.ConcR.Gen
open Go.ConcN (WgLive PayAt Has RW AtR0)
open Go.ConcN.Gen
open Go.ConcR (KK WgAt stA smA rd wr mk Payload DC0)
def Lu:Lr=#[{dst:=af,op:=.defer {callee:=.value (.func 143),args:=#[.tmp 0],argTypes:=#[215]},type:=0,pos:= "l12_snap.go:81",after:=#[],guard:=af}]:=by kernel_rfl
def bW(a:ah):aU:={baseD 142 with defers:=[dcall 143 #[a]]}
abbrev tW(v0 v1 v2 v3 v4 v5:ah):Array ah:=#[v0,v1,v2,v3,v4,v5,ai,ai,ai,ai,ai,ai,ai]
def S6(v0 v1 v2 v3 v4 v5:ah)(w:aA):Goes ag ae (λ_ _=>True) DC0 (λg _=>g=G ((bW v0).aT ⟨tW v0 v1 v2 v3 v4 v5,[]⟩ [.code (.region 1 Ls ab)]) [vp]) 8 (born ag (xN #[v0,v1,v2,v3,v4,v5])) w:=by
 have b:True:=ay;have a:True->True->True:=λ_ _=>trivial;refine Goes.step rfl (λw1 h1=>?_);rw[Iw];simp only[goes_go];refine⟨⟨rfl,rfl⟩,?_⟩;clear h1;rw[Lu]
 u_c aD a b
 u_reg a b
 u_defer a b
 u_c aC a b
 exact Goes.stop λ_ _=>rfl
def Zy(T:Array ah):QuitsD ag 2 0 (G {(baseD 142).at ⟨T,[]⟩ []with mode:=.returning} [vp]):=by
 have a:Tryz.f142.results=#[]:=by kernel_rfl
 refine QuitsD.ctl (g':=G vp []) rfl (λw=>?_) ?_
 .simp[G,aH,unwind,doReturn,results,Frame.at,baseD,vp,Tryz.func142,a,seen,GStep.after,goexitEntry]
 refine QuitsD.ctl (g':={G vp []with status:=.finished}) rfl (λw=>?_) ⟨rfl,rfl⟩;simp[G,aH,unwind,vp,goexitEntry,Frame.catches];rfl
section
variable {Y:Lay}{n:Nat}{val:Nat->Nat->ah}
def tailW(x:Nat)(d:Y.kc=2)(T:Array ah)(w:aA)(a:WgLive 215 Y.Wg w/\Has Y.C (Y.kc*x+1-1) (val x 0) w):
  ∃m,Goes ag ae (RW 215 Y.Wg Y.C (2*n) 0 (Y.kc*x+1-1)) DC0 (AtR0 ag 215 Y.Wg Y.C (2*n) 0 (Y.kc*x+1) (val x 0)) m (G ((bW (.pointer (aa ⟨Y.Wg,0,af⟩))).aT ⟨T,[]⟩ [.inRegion vo.toArray []]) [vp]) w:=by
 refine⟨26,?_⟩;have e:(bW (.pointer (aa ⟨Y.Wg,0,af⟩))).aT ⟨T,[]⟩ [.inRegion vo.toArray []]=(baseD 142).at ⟨T,[dcall 143 #[.pointer (aa ⟨Y.Wg,0,af⟩)]]⟩ [.inRegion vo.toArray []]:=rfl;rw[e]
 u_c aC kn_rely a
 u_c stepG_end kn_rely a
 u_in kn_rely a
 rw[stepG_unwind_enter (c:=body_done Q6) rfl C7.f_done (by kernel_rfl) (by kernel_rfl)];simp only[goes_go];refine⟨by u_nil,?_⟩;have b:=V1 (P:=ag) (L:=Q6) (Wg:=Y.Wg) (C:=Y.C) (n:=2*n) (Low:=0) (x:=Y.kc*x+1) (val:=val x 0) (c:={(baseD 142).at ⟨T,[]⟩ []with mode:=.returning}) (cs:=[vp]) C7 rfl (Zy T) _ a;exact b
def rd_str{M:Mem}{v:ah}{l:Bs}(h:Rd M v (.str l)):v=.string ⟨l.toArray⟩:=by
 cases h with
 |str h1 h2=>rw[<-h1]
def rd_bool{M:Mem}{v:ah}{b:Bool}(h:Rd M v (.bool b)):v=.bool b:=by cases h;rfl
def UC:au:=oW af (.store 218 (.tmp 12) (.tmp 11)) 0 #[⟨6,.data⟩,⟨5,.data⟩,⟨5,.chain⟩,⟨0,.phase⟩,⟨1,.phase⟩,⟨2,.phase⟩,⟨3,.phase⟩,⟨4,.phase⟩,⟨5,.phase⟩]
def V2{x:Nat}(hx:x<n)(H:Y.kc=2){k:Int}{ps:List bJ}{J:Int}(z:val x 0=.string ⟨((de k ps J).getD []).toArray⟩)(B:val x 1=.bool (de k ps J).isSome){s:St}{T:Array ah}(p:dt [] s (T.getD 12 ai) (xW k ps J n x Y.C 6))(g:dt [] s (T.getD 11 ai) (XY (de k ps J))):
  Kl ag 215 Y (2*n) val x (G ((bW (.pointer (aa ⟨Y.Wg,0,af⟩))).aT ⟨T,[]⟩ [.inRegion vo.toArray [7]]) [vp]) s:=by
 have p:T.getD 12 ai=.pointer (aa ⟨Y.C,x*2,af⟩):=Rd.en p;have g:T.getD 11 ai=.agg #[val x 0,val x 1]:=by
  obtain⟨vs,Z,d⟩:=g
  match vs,d with
  |[],d=>exact d.elim
  |[_],d=>exact d.2.elim
  |_::_::_::_,d=>exact d.2.2.elim
  |[u0,u1],d =>
   rw[Z,rd_str d.1,rd_bool d.2.1,z,B]
 refine⟨rfl,λw1 hr Ks Lv=>?_⟩;obtain⟨cs,c,B5⟩:=Ks;have L:Y.kc*x=x*2:=by grind
 have E:∀v∈[val x 0,val x 1],v.oneCell'=ab:=by
  intro v N;simp only[eB,ot,mO]at N;rcases N with rfl|rfl
  .rw[z];rfl
  .rw[B];rfl
 have q:x*2+0+[val x 0,val x 1].length<=cs.size:=by grind
 have l:=run_storeCells_at ag Y.C (x*2) 218 [val x 0,val x 1] 0 cs w1 c q E;simp only[iE,fb,gG,bF]at l;generalize r:(cs.toList.take (x*2)++[val x 0,val x 1]++cs.toList.drop (x*2+2)).toArray=new at l;have V:new.size=cs.size:=by grind
 have w:=setRow_heap w1 Y.C cs new 218 (0,0) c;have t:∀o,(w1.setRow Y.C new).cell? ⟨Y.C,o,af⟩=new[o]?:=λo=>cell_setRow_same w1 Y.C o cs new 218 (0,0) c;have I:∀o,w1.cell? ⟨Y.C,o,af⟩=cs[o]?:=λo=>by simp[aV,c]
 have R:∀i,i<2->new[x*2+i]?=aa (val x i):=by
  intro i hi;rw[<-r];have M:(cs.toList.take (x*2)).length=x*2:=by grind
  rw[l8];simp only[iB];rw[gk (by omega),M]
  match i,hi with
  |0,_=>simp
  |1,_=>simp
 have Q:∀o,(o<x*2∨x*2+2<=o)->new[o]?=cs[o]?:=by
  intro o K;rw[<-r];have M:(cs.toList.take (x*2)).length=x*2:=by grind
  rw[l8];simp only[iB];rcases K with K|K
  .grind
  .rw[gk (by omega),M,gk (by grind)];simp only[fb,gG,pt];rw[show x*2+2+(o-x*2-(0+1+1))=o by omega];simp
 have F:(Value.agg #[val x 0,val x 1]).cells=#[val x 0,val x 1]:=rfl;have D:(aw (⟨T,[]⟩:Act).eval UC).run ag w1=.ok .skip (w1.setRow Y.C new):=by have u:(⟨T,[]⟩:Act).eval (.tmp 12)=.pointer (aa ⟨Y.C,x*2,af⟩):=p;have y:(⟨T,[]⟩:Act).eval (.tmp 11)=.agg #[val x 0,val x 1]:=g;simp[aw,UC,oW,u,y,Instr.storeAt,bq,storeVar,(tok 218 i218 rfl).run_sizeOf,i218,F,l]
 have f:∀e∈(aw (⟨T,[]⟩:Act).eval UC).events ag w1 #[],∃j,j<2/\e=HP Y.C (x*2+j):=by
  intro P f;have u:(⟨T,[]⟩:Act).eval (.tmp 12)=.pointer (aa ⟨Y.C,x*2,af⟩):=p;have y:(⟨T,[]⟩:Act).eval (.tmp 11)=.agg #[val x 0,val x 1]:=g;have e:aw (⟨T,[]⟩:Act).eval UC=(do storeVar 218 ⟨Y.C,x*2,af⟩ (.agg #[val x 0,val x 1]);pure .skip):=by simp[aw,UC,oW,u,y,Instr.storeAt,bq]
  rw[e]at f;have A:P∈(storeCells ⟨Y.C,x*2,af⟩ [val x 0,val x 1]).events ag w1 #[]:=by simp only[storeVar,aM,(tok 218 i218 rfl).run_sizeOf,i218,F,aP,events_sizeOf,dy,ck,bT,b5,Sem.events_pure]at f;simpa[l]using f
  rcases dN [val x 0,val x 1] 0 cs w1 #[] c q E P A with W|⟨j,_,S,rfl⟩
  .grind
  grind
 have m:WgLive 215 Y.Wg (w1.setRow Y.C new):=by
  obtain⟨st,O,h⟩:=Lv;refine⟨st,O,?_⟩;show(w1.setRow Y.C new).heap[Y.Wg]?=_;rw[setRow_other w1 Y.C Y.Wg new ?_]
  .exact h
  .intro e;have d:w1.heap[Y.Wg]?=aa (Go.ConcR.wgBlock 215 st O):=h;rw[e,c]at d;simp[Go.ConcR.wgBlock]at d;exact absurd d.2 (by decide)
 refine⟨_,w1.setRow Y.C new,_,Gm (b:=bW (.pointer (aa ⟨Y.Wg,0,af⟩))) (a:=⟨T,[]⟩) (k:=[]) (ops:=vo.toArray) (i:=7) (rest:=[]) (o:=UC) rfl rfl (by simp[bW,baseD]) D,?_,?_,?_⟩
 .refine⟨rfl,rfl,rfl,by simp,λb U=>setRow_other w1 Y.C b new U,⟨new,w,by grind⟩,λo K=>?_,λi hi=>?_⟩
  .grind
  .rw[H]at hi;rw[t,L];grind
 .intro e X;obtain⟨j,S,rfl⟩:=f e (Go.Conc.mem_seen X);exact⟨x*2+j,rfl,by omega,by omega⟩
 .exact tailW x H T _ ⟨m,by show(w1.setRow Y.C new).cell? _=_;grind⟩
def worker{k:Int}(j:er (Cx.work ag) 144 (mr k)){x:Nat}(m:x<n)(i:Y.kc=2){ps:List bJ}{d:Int}(e:val x 0=.string ⟨((de k ps d).getD []).toArray⟩)(f:val x 1=.bool (de k ps d).isSome){s:St}(y:aF [] s)(F:s.β=[]){v1 v2 v3 v4 v5:ah}(u:Rd s.M v1 (.rp [.int .i64 k]))(p:Rd s.M v2 (.rp [.sl ae 2 ps.length (cP.fn ps)]))(o:Rd s.M v3 (.rp [.int .i64 d]))(v:Rd s.M v4 (.rp [.val (.slice (aa ⟨Y.C,0,af⟩) n n)]))(r:Rd s.M v5 (.rp [.int .i64 x])):
  eC (Cx.work ag) E0 (Kl ag 215 Y (2*n) val x) (born ag (xN #[.pointer (aa ⟨Y.Wg,0,af⟩),v1,v2,v3,v4,v5])) s:=by
 refine eC.goes (X:=Cx.work ag) (R:=λ_ _=>True) (D:=DC0) (Stop:=λg _=>g=G ((bW (.pointer (aa ⟨Y.Wg,0,af⟩))).aT ⟨tW (.pointer (aa ⟨Y.Wg,0,af⟩)) v1 v2 v3 v4 v5,[]⟩ [.code (.region 1 Ls ab)]) [vp])
  (λb=>aF [] b/\b.M=s.M) (λb s2 h q=>⟨h.1.rely q,q.M.trans h.2⟩) (λ_ _ _ _=>trivial) ?_ (λb h=>cv.w7 h.1.mem) ?_ 8 _ s ⟨y,rfl⟩ (S6 _ _ _ _ _ _ _)
 .rintro b es h w' ⟨rfl,rfl⟩;exact⟨rfl,.inl (.quiet h.1)⟩
 .rintro g b ⟨l,B⟩ rfl;rw[Pd];refine fL.toE (λ_ _ _ h=>h) ?_;refine(V0 j ps d n x Y.C m (.pointer (aa ⟨Y.Wg,0,af⟩))).region (by kernel_rfl) (by simp[bW,baseD]) ⟨by simp[tW],⟨[],ay⟩,λt=>?_⟩ rfl l λs2 a E c A w st=>.stop ?_
  .rw[<-B]at u p o v r
   match t with
   |0=>exact Rd.val rfl
   |1=>exact u
   |2=>exact p
   |3=>exact o
   |4=>exact v
   |5=>exact r
   |t+6=>trivial
  .obtain⟨T,z⟩:=a;obtain rfl:z=[]:=A;exact V2 m i e f (c 12) (c 11)
end
end
section
open Go.Proofs Go.Conc Go.Conc.Lib
open Go.ConcN (WgLive PayAt Has RW AtR0)
open Go.ConcR (KK WgAt stA smA rd wr mk Payload DC0)
def xO:Code->Code|.seq a _=>a|c=>c
def lp:Code->Code|.seq _ a=>a|c=>c
def V3:Code->Code|.block _ a=>a|c=>c
def Zz:Code->Code|.loop a=>a|c=>c
def S7:Code->Array au|.region _ o _=>o|_=>#[]
noncomputable def Fq:Code:=(Tryz.f96.body).getD .skip
noncomputable def iN:Code:=Zz (V3 (lp (xO (lp (lp (lp Fq))))))
noncomputable def cR4:Code:=xO iN
noncomputable def S8:Code:=V3 (xO (lp (lp iN)))
noncomputable def cR5:Code:=xO S8
noncomputable def A7:Array au:=S7 (xO (lp S8))
noncomputable def yI:Array au:=S7 (lp (lp S8))
noncomputable def NO:Code:=lp (lp (lp iN))
noncomputable def nZ:Code:=lp (lp (lp (lp Fq)))
noncomputable def yJ:Array au:=S7 (xO nZ)
noncomputable def rm:Code:=lp nZ
def C8:iN=.seq cR4 (.seq (.cond (.tmp 21) .skip (.exit 0)) (.seq (.block 1 (.seq cR5 (.seq (.region 6 A7 ae) (.region 7 yI ae)))) NO)):=by kernel_rfl
def Lw:nZ=.seq (.region 9 yJ ae) rm:=by kernel_rfl
def NQ(j:Fr)(σ1:List aR):Post:=λe φ σ=>e=.normal/\oB φ j/\σ=σ1
structure At(σ0:List aR)(s0:St)(φ:Fr)(σ:List aR)(a:Act)(s:St):Prop where
 fr:cu 45 σ s φ a
 hh:aF σ s
 st:cY σ0 s0 σ s
section
variable {σ0:List aR}{s0:St}{φ j:Fr}{σ σ1:List aR}{a:Act}{s:St}
def At.rely(h:At σ0 s0 φ σ a s){d:St}(c:cv s d):At σ0 s0 φ σ a d:=⟨h.fr.rely c h.hh,h.hh.rely c,h.st.trans c.stepW⟩
structure NP(b:Nat)(s:St):Prop where
 own:¬s.own b
 β:∀L∈s.β,b∉L.bs
 M:∀o,s.M b o=af
 lt:b<s.w.heap.size
def NP.step{b:Nat}(h:NP b s0)(st:cY σ0 s0 σ s):NP b s :=
 ⟨by rw[st.own];exact h.own,λL c e=>by
  rcases st.vK L c b e with h1|⟨f,d,h1⟩
  .have:=h.lt;omega
  .exact h.β f d h1,λo=>by rw[st.je b h.lt h.β];exact h.M o,c7 h.lt st.size⟩
def At.apart{Wg:Nat}(d:NP Wg s0):Apart Wg (At σ0 s0 φ σ a) :=
 ⟨λ_ _ h e=>h.rely e,λ_ h=>⟨σ,h.hh⟩,λ_ h=>let c:=d.step h.st;⟨c.own,c.β,c.M⟩⟩
variable {X:Cx ag}{S:av->St->Prop}{b:aU}{k:List Item}{cs:List aU}
def At.ctl(h:At σ0 s0 φ σ a s){g g':av}(e:g.status=.running)(d:∀w,aH ag X.main g w=.go g' w #[])(kk:∀c,At σ0 s0 φ σ a c->fL X S g' c):fL X S g s :=
 .ctl h.hh e d λc h1=>kk c (h.rely h1)
def At.code(h:At σ0 s0 φ σ a s)(i:b.kind≠.early){c:Code}(g:AW X 45 c (NQ j σ1) φ σ)(kk:∀a1 s1,At σ0 s0 j σ1 a1 s1->fL X S (G (b.aT a1 k) cs) s1):fL X S (G (b.aT a (.code c::k)) cs) s:=by refine g s a h.fr h.hh b k cs S i ?_;rintro e φ' σ' s' a' ⟨rfl,hl,rfl⟩ f l d;exact kk a' s' ⟨f.le hl,l,h.st.trans d⟩
end
def fL.live{Wg:Nat}{E:St->St->Array Event->Prop}{S:av->St->Prop}{g:av}{s:St}(h:fL (Cx.lead ag 215 Wg) S g s)(i:Clear (λb=>b=Wg) s)(hl:WgLive 215 Wg s.w):
  eC (Cx.lead ag 215 Wg) E (λg s=>S g s/\WgLive 215 Wg s.w) g s:=by
 induction h with
 |stop h=>exact⟨.leaf,h,hl⟩
 |@step g s r ns ne hr h1 h2 _ p =>
  refine .step hr λf c=>?_;have m:=c.2 hl;have d:Clear (λb=>b=Wg) f:=⟨λb e=>by rw[c.1.own];exact i.own b e,λb e=>by rw[c.1.β];exact i.β b e,λb e o=>by rw[c.1.M];exact i.M b e o,λb e=>c7 (i.lt b e) c.1.size⟩
  obtain⟨⟨σ,σ',hh,n,st⟩,l⟩:=h2 f c;refine⟨_,_,_,h1 f c,.inl ⟨⟨σ,σ',hh,n,st⟩,l⟩,p f c (d.step st) ?_⟩;obtain⟨x,y,q⟩:=m;exact⟨x,y,by show(ns f).w.heap[Wg]?=_;rw[st.fy Wg (d.lt Wg rfl) (d.β Wg rfl)];exact q⟩
 |ghost hg _ p=>exact .ghost hg (p (i.ghost hg) (by rw[hg.w];exact hl))
 |forget hx _ _ _=>exact hx.elim
 |yv hj _ _=>exact hj.elim
def NP.clear{Wg:Nat}{s:St}(h:NP Wg s):Clear (λb=>b=Wg) s:=⟨λb e=>e▸h.own,λb e=>e▸h.β,λb e=>e▸h.M,λb e=>e▸h.lt⟩
section
variable (k:Int)(ps:List bJ)(ns:List Int)(C Wg:Nat)
def nv(i:Nat):Fr:=[(3,.e (.one (.c (.rp [.int .i64 k])))),(4,.e (.one (.c (.rp [.sl ae 2 ps.length (cP.fn ps)])))),(8,.e (.one (.c (.rp [.val (.slice (aa ⟨C,0,af⟩) ns.length ns.length)])))),(9,.e (.one (.v (.pointer (aa ⟨Wg,0,af⟩))))),
 (18,cI.sl ns),(19,dI ns.length),(20,dI i)]
variable {k ps ns C Wg}{X:Cx ag}{σ:List aR}
def pR4{i:Nat}(hi:i<=ns.length):AW X 45 cR4 (NQ ((21,dB (decide (i<ns.length)))::nv k ps ns C Wg i) σ) (nv k ps ns C Wg i) σ:=by
 refine AK.of_code ?_;by_cases h:i<ns.length
 .refine aX [(21,ab)] rfl ?_ ⟨rfl,cD rfl ?_,rfl⟩
  .simp;omega
  .simp[h]
 .refine aX [(21,ae)] rfl ?_ ⟨rfl,cD rfl ?_,rfl⟩
  .simp;omega
  .simp[h]
abbrev d5:List aR:=[.dead,.dead,.dead,.dead,.dead]
def pR5{i:Nat}(hi:i<ns.length):AW X 45 cR5 (NQ ((10,.e (.one (.ptr 5 0)))::(11,.e (.one (.ptr 6 0)))::nv k ps ns C Wg i) [.dead,.dead,.dead,.dead,.dead,.cells 3 [.c (.int .i64 i)],.cells 3 [.c (.int .i64 (ns.getD i 0))]]) (nv k ps ns C Wg i) d5:=by
 refine AK.of_code ?_;refine bt rfl ?_ ⟨rfl,cD rfl ?_,?_⟩
 .simp;omega
 .simp
 grind
def pR8{i:Nat}(hi:i<ns.length)(c:ns.length<=4000000):AW X 45 NO (NQ (nv k ps ns C Wg (i+1)) d5) (nv k ps ns C Wg i) d5:=by
 refine AK.of_code ?_;refine bt rfl ?_ ⟨rfl,cD rfl ?_,rfl⟩
 .simp[bD];omega
 .simp
variable {σ0:List aR}{s0:St}{S:av->St->Prop}{b:aU}{kk:List Item}{cs:List aU}
abbrev d7:List aR:=[.dead,.dead,.dead,.dead,.dead,.dead,.dead]
variable (k ps ns C Wg)in
abbrev rV(i:Nat):Fr:=(11,.e (.one (.c (.rp [.int .i64 (ns.getD i 0)]))))::(10,.e (.one (.c (.rp [.int .i64 i]))))::nv k ps ns C Wg i
noncomputable abbrev uo(kk:List Item):List Item:=.code (.region 7 yI ae)::.inBlock 1::.code NO::.inLoop iN::.inBlock 0::kk
def wa{P:ar}{main:Bool}{b:aU}{a:Act}{k:List Item}{cs:List aU}{w:aA}{c x y:Code}(h:c=.seq x y):aH P main (G (b.aT a (.code c::k)) cs) w=.go (G (b.aT a (.code x::.code y::k)) cs) w:=by grind[oy]
def toAdd{i:Nat}(hi:i<ns.length)(n:b.kind≠.early){a:Act}{s:St}(h:At σ0 s0 (nv k ps ns C Wg i) d5 a s)(K:∀m l,At σ0 s0 (rV k ps ns C Wg i) d7 m l->fL X S (G (b.aT m (.inRegion A7 [0]::uo kk)) cs) l):
  fL X S (G (b.aT a (.code iN::.inLoop iN::.inBlock 0::kk)) cs) s:=by
 refine h.ctl rfl (λw=>wa C8) λs h=>?_;refine h.code n (pR4 (Nat.le_of_lt hi)) λa s h=>?_;refine h.ctl rfl (λw=>oy) λs h=>?_;have q:a.eval (.tmp 21)=.bool ab:=by have:=h.fr.slot 21;simp only[hi,jV]at this;exact rd_bool (e9 this)
 refine h.ctl rfl (λw=>vL q) λs h=>?_;refine h.ctl rfl (λw=>Gj) λs h=>?_;refine h.ctl rfl (λw=>oy) λs h=>?_;refine h.ctl rfl (λw=>sD) λs h=>?_;refine h.ctl rfl (λw=>oy) λs h=>?_;have h:At σ0 s0 (nv k ps ns C Wg i) d5 a s:=⟨h.fr.le (cD rfl (by simp)),h.hh,h.st⟩
 refine h.code n (pR5 hi) λa s h=>?_;obtain⟨l,w1,p,d,e⟩:=cu.freeze 10 5 (E:=3) (cs:=[.c (.int .i64 i)]) (cc:=[.int .i64 i]) rfl rfl rfl h.fr h.hh;refine .ghost (.of h.hh d w1 (e.nF h.hh)) ?_;obtain⟨s2,w2,o,f,g⟩:=cu.freeze 11 6 (E:=3) (cs:=[.c (.int .i64 (ns.getD i 0))]) (cc:=[.int .i64 (ns.getD i 0)]) rfl rfl rfl p d;refine .ghost (.of d f w2 (g.nF d)) ?_;have h:At σ0 s0 (rV k ps ns C Wg i) d7 a s2:=⟨o.le (cD rfl (by simp)),f,h.st.trans ((e.nF h.hh).trans (g.nF d))⟩
 refine h.ctl rfl (λw=>oy) λs h=>?_;refine h.ctl rfl (λw=>qx) λs h=>?_;exact K a s h
def o6:au:={dst:=aa 25,op:=.call {callee:=.value (.func 141),args:=#[.tmp 9,.const (.int .i64 1)],argTypes:=#[215,3]},type:=0,pos:= "l12_snap.go:79",after:=#[],guard:=af}
theorem G9:A7=#[o6]:=by kernel_rfl
def Lx{i:Nat}(m:b.kind≠.early){a:Act}{s:St}(h:At σ0 s0 (rV k ps ns C Wg i) d7 a s)(K:∀c,At σ0 s0 (rV k ps ns C Wg i) d7 a c->fL X S (G (Frame.enter ag 141 #[.pointer (aa ⟨Wg,0,af⟩),.int .i64 1] .normal) (b.aT a (.inRegion A7 [0]::uo kk)::cs)) c):
  fL X S (G (b.aT a (.inRegion A7 [0]::uo kk)) cs) s:=by
 refine .next rfl λc d=>?_;have e:=h.rely (X.iH d);have l:a.eval (.tmp 9)=.pointer (aa ⟨Wg,0,af⟩):=Rd.en (e.fr.slot 9);have g:(aw a.eval o6).run ag c.w=.ok (.enter 141 #[.pointer (aa ⟨Wg,0,af⟩),.int .i64 1]) c.w:=by have:=run_call_body (P:=ag) (a:=a) (w:=c.w) (o:=o6) (f:=141) (fn:=Tryz.f141) rfl Tryz.func141 (by kernel_rfl) (by kernel_rfl);rw[this,<-l];simp only[List.map_toArray,qu,List.map_nil];rfl
 have p:(aw a.eval o6).events ag c.w #[]=#[]:=events_call_body (P:=ag) (a:=a) (w:=c.w) (o:=o6) (f:=141) (fn:=Tryz.f141) rfl Tryz.func141 (by kernel_rfl) (by kernel_rfl) #[];have n:listed ag b.fn a o6 c.w=#[]:=by unfold listed;grind[seen_none]
 refine⟨_,c,#[],?_,.quiet e.hh,K c e⟩;have:=px (P:=ag) (main:=X.main) (b:=b) (a:=a) (k:=uo kk) (cs:=cs) (w:=c.w) (ops:=A7) (i:=0) (rest:=[]) (o:=o6) (by grind[G9]) rfl m g;grind
def V4:au:={dst:=aa 26,op:=.makeFunc (.func 142) #[] #[.tmp 9,.tmp 3,.tmp 4,.tmp 11,.tmp 8,.tmp 10],type:=1,pos:= "l12_snap.go:80",after:=#[],guard:=af}
def Pf:au:={dst:=af,op:=.go {callee:=.value (.tmp 26),args:=#[],argTypes:=#[]},type:=0,pos:= "l12_snap.go:80",after:=#[⟨0,.data⟩],guard:=af}
theorem Ha:yI=[V4,Pf].toArray:=by kernel_rfl
variable (k ps ns C Wg)in
abbrev Fs(i:Nat):AM.C:=.fn (.func 142) [] [.val (.pointer (aa ⟨Wg,0,af⟩)),.rp [.int .i64 k],.rp [.sl ae 2 ps.length (cP.fn ps)],.rp [.int .i64 (ns.getD i 0)],.rp [.val (.slice (aa ⟨C,0,af⟩) ns.length ns.length)],.rp [.int .i64 i]]
def V5{i:Nat}:OA X 45 [V4,Pf] V4 ((25,.any)::rV k ps ns C Wg i) d7 (.e (.one (.c (Fs k ps ns C Wg i)))) d7:=by have h:wP tt [] [] [V4,Pf] ((25,.any)::rV k ps ns C Wg i) d7 V4=aa (.e (.one (.c (Fs k ps ns C Wg i))),af,[]):=rfl;exact gL tok bL.nil h ay
def ZA{i:Nat}(n:b.kind≠.early){a:Act}{s:St}(h:At σ0 s0 (rV k ps ns C Wg i) d7 a s)(K:∀v l c,At σ0 s0 (rV k ps ns C Wg i) d7 l c->Rd c.M v (Fs k ps ns C Wg i)->l.tmps.getD 26 ai=v->fL X S (G (b.aT l (.inRegion yI [1]::.inBlock 1::.code NO::.inLoop iN::.inBlock 0::kk)) cs) c):
  fL X S (G (b.aT (a.put (aa 25) (.tuple #[])) (.inRegion A7 []::uo kk)) cs) s:=by
 have p:At σ0 s0 ((25,.any)::rV k ps ns C Wg i) d7 (a.put (aa 25) (.tuple #[])) s:=⟨h.fr.put (by decide) ay,h.hh,h.st⟩
 refine p.ctl rfl (λw=>jg) λs h=>?_;refine h.ctl rfl (λw=>qx) λs h=>?_;rw[Ha];refine V5 s _ h.fr h.hh b _ cs S 0 [1] n rfl λv c f g e=>?_;have f:Rd c.M v (Fs k ps ns C Wg i):=e9 f;have o:=((h.fr.mono e h.hh.len).put (d:=26) (v:=v) (x:=.any) (by decide) ay)
 have m:26<(a.put (aa 25) (.tuple #[])).tmps.size:=by rw[h.fr.size];decide
 refine K v _ c ⟨o.le (cD rfl ?_),g,h.st.trans e⟩ f (Kx m);simp
def S9{i:Nat}(hi:i<ns.length)(p:ns.length<=4000000)(e:b.kind≠.early)(c:σ0.length<=5){a:Act}{s:St}(h:At σ0 s0 (rV k ps ns C Wg i) d7 a s)(K:∀l m,At σ0 s0 (nv k ps ns C Wg (i+1)) d5 l m->fL X S (G (b.aT l (.code iN::.inLoop iN::.inBlock 0::kk)) cs) m):
  fL X S (G (b.aT a (.inRegion yI []::.inBlock 1::.code NO::.inLoop iN::.inBlock 0::kk)) cs) s:=by
 have g:cu 45 (d5++[.dead,.dead]) s (nv k ps ns C Wg i) a:=h.fr.le (cD rfl (by simp));have d:aF (d5++[.dead,.dead]) s:=h.hh;have f:cY σ0 s0 (d5++[.dead,.dead]) s:=h.st;have q:eF s (s.cut d5.length):=⟨rfl,λ_ _ _ h=>h,λ_ _ _=>rfl,d.mem,λb e=>e.imp id λ⟨L,o,e⟩=>⟨L,fM o,e⟩⟩
 refine .ghost q ?_;have h:At σ0 s0 (nv k ps ns C Wg i) d5 a (s.cut d5.length):=⟨⟨g.size,g.defers.imp λ_ n=>n.drop rfl,λt=>(g.slot t).drop (nW rfl)⟩,d.drop rfl,f.drop c⟩
 refine h.ctl rfl (λw=>jg) λs h=>?_;refine h.ctl rfl (λw=>rD) λs h=>?_;refine h.code e (pR8 hi p) λa s h=>?_;exact h.ctl rfl (λw=>yU) λs h=>K a s h
end
theorem xP{b:aU}(c:b.roundOf=af)(a:Act)(t:List Item):b.aT a t=b.at ⟨a.tmps,a.defers++b.defers⟩ t:=by cases b;simp only at c;subst c;rfl
section
variable {k:Int}{ps:List bJ}{ns:List Int}{Y:Lay}{val:Nat->Nat->ah}{σ0:List aR}{s0:St}{b:aU}{kk:List Item}{cs:List aU}
def Q8{a:Act}{w:aA}{c c1 c2 c3 c4 c5:ah}(d:a.tmps.getD 26 ai=.func (.func 142) #[] #[c,c1,c2,c3,c4,c5]):(aw a.eval Pf).run ag w=.ok (.spawn (xN #[c,c1,c2,c3,c4,c5])) w/\(aw a.eval Pf).events ag w #[]=#[]:=by
 have e:a.eval (.tmp 26)=.func (.func 142) #[] #[c,c1,c2,c3,c4,c5]:=d;constructor
 .simp[aw,Pf,resolve,Deferred.ofValue,e,xN]
 .simp[aw,Pf,resolve,Deferred.ofValue,e]
def V6(q:er (Cx.work ag) 144 (mr k))(p:Y.kc=2)(f:b.roundOf=af)(A:b.kind≠.early){i:Nat}(hi:i<ns.length)(g:val i 0=.string ⟨((de k ps (ns.getD i 0)).getD []).toArray⟩)(l:val i 1=.bool (de k ps (ns.getD i 0)).isSome){v:ah}{a:Act}{s:St}(h:At σ0 s0 (rV k ps ns Y.C Y.Wg i) d7 a s)(y:WgLive 215 Y.Wg s.w)(B:Rd s.M v (Fs k ps ns Y.C Y.Wg i))(u:a.tmps.getD 26 ai=v){Next:av->St->Prop}(K:∀d,At σ0 s0 (rV k ps ns Y.C Y.Wg i) d7 a d->WgLive 215 Y.Wg d.w->Next (G (b.aT a (.inRegion yI []::.inBlock 1::.code NO::.inLoop iN::.inBlock 0::kk)) cs) d):
  AtGo ag 215 Y (2*ns.length) val i Next (G (b.aT a (.inRegion yI [1]::.inBlock 1::.code NO::.inLoop iN::.inBlock 0::kk)) cs) s:=by
 refine⟨rfl,λd c=>?_⟩;have x:=h.rely c.1;have t:Rd d.M v (Fs k ps ns Y.C Y.Wg i):=by rw[c.1.M];exact B
 cases t with
 |fn fs cc Y3 Vw f1 f2 g1 g2 r1 r2 =>
 have m:fs=[]:=jv Y3;subst m;have r:cc=[f2 0,f2 1,f2 2,f2 3,f2 4,f2 5]:=by
  apply iY;intro j;have Vw:cc.length=6:=Vw
  match j with
  |0=>grind
  |1=>grind
  |2=>grind
  |3=>grind
  |4=>grind
  |5=>grind
  |j+6=>grind
 subst r;have z:f2 0=.pointer (aa ⟨Y.Wg,0,af⟩):=Rd.en (r2 0 _ rfl);obtain⟨D,q2⟩:=Q8 (a:=a) (w:=d.w) u;have e:Go.Conc.listed ag b.fn ⟨a.tmps,a.defers++b.defers⟩ Pf d.w=#[]:=by unfold Go.Conc.listed;have:=(Q8 (a:=⟨a.tmps,a.defers++b.defers⟩) (w:=d.w) u).2;grind[seen_none]
 have n:=stepG_spawn (P:=ag) (main:=ab) (b:=b) (a:=⟨a.tmps,a.defers++b.defers⟩) (k:=.inBlock 1::.code NO::.inLoop iN::.inBlock 0::kk) (cs:=cs) (w:=d.w) (ops:=yI) (i:=1) (rest:=[]) (o:=Pf) (by grind[Ha]) rfl A D rfl;refine⟨G (b.aT a (.inRegion yI []::.inBlock 1::.code NO::.inLoop iN::.inBlock 0::kk)) cs,born ag (xN #[f2 0,f2 1,f2 2,f2 3,f2 4,f2 5]),?_,rfl,?_,K d x (c.2 y)⟩
 .rw[xP f,xP f,n,e];rfl
 .rw[z];exact worker q hi p g l (s:=d.child) ⟨x.hh.mem,rfl,by simp,by simp[St.child],by simp[St.child],by simp[St.child]⟩ rfl (r2 1 _ rfl) (r2 2 _ rfl) (r2 3 _ rfl) (r2 4 _ rfl) (r2 5 _ rfl)
def o9:au:={dst:=aa 28,op:=.call {callee:=.value (.func 145),args:=#[.tmp 9],argTypes:=#[215]},type:=0,pos:= "l12_snap.go:85",after:=#[],guard:=af}
theorem Hb:yJ=#[o9]:=by kernel_rfl
variable {X:Cx ag}{S:av->St->Prop}
def Ta(j:b.kind≠.early){C Wg:Nat}{a:Act}{s:St}(h:At σ0 s0 (nv k ps ns C Wg ns.length) d5 a s)(K:∀g c,At σ0 s0 (nv k ps ns C Wg ns.length) d5 g c->fL X S (G (Frame.enter ag 145 #[.pointer (aa ⟨Wg,0,af⟩)] .normal) (b.aT g (.inRegion yJ [0]::.code rm::kk)::cs)) c):
  fL X S (G (b.aT a (.code iN::.inLoop iN::.inBlock 0::.code nZ::kk)) cs) s:=by
 refine h.ctl rfl (λw=>wa C8) λs h=>?_;refine h.code j (pR4 (bc _)) λa s h=>?_;refine h.ctl rfl (λw=>oy) λs h=>?_;have n:a.eval (.tmp 21)=.bool ae:=by have:=h.fr.slot 21;simp only[Nat.lt_irrefl,kS]at this;exact rd_bool (e9 this)
 refine h.ctl rfl (λw=>vL n) λs h=>?_;refine h.ctl rfl (λw=>Ad (k':=.code nZ::kk) rfl) λs h=>?_;refine h.ctl rfl (λw=>wa Lw) λs h=>?_;refine h.ctl rfl (λw=>qx) λs h=>?_;have h:At σ0 s0 (nv k ps ns C Wg ns.length) d5 a s:=⟨h.fr.le (cD rfl (by simp)),h.hh,h.st⟩
 refine .next rfl λc d=>?_;have e:=h.rely (X.iH d);have p:a.eval (.tmp 9)=.pointer (aa ⟨Wg,0,af⟩):=Rd.en (e.fr.slot 9);have l:(aw a.eval o9).run ag c.w=.ok (.enter 145 #[.pointer (aa ⟨Wg,0,af⟩)]) c.w:=by have:=run_call_body (P:=ag) (a:=a) (w:=c.w) (o:=o9) (f:=145) (fn:=Tryz.f145) rfl Tryz.func145 (by kernel_rfl) (by kernel_rfl);grind
 have q:(aw a.eval o9).events ag c.w #[]=#[]:=events_call_body (P:=ag) (a:=a) (w:=c.w) (o:=o9) (f:=145) (fn:=Tryz.f145) rfl Tryz.func145 (by kernel_rfl) (by kernel_rfl) #[];have m:Go.Conc.listed ag b.fn a o9 c.w=#[]:=by unfold Go.Conc.listed;grind[seen_none]
 refine⟨_,c,#[],?_,.quiet e.hh,K a c e⟩;have:=px (P:=ag) (main:=X.main) (b:=b) (a:=a) (k:=.code rm::kk) (cs:=cs) (w:=c.w) (ops:=yJ) (i:=0) (rest:=[]) (o:=o9) (by grind[Hb]) rfl j l;rw[m]at this;exact this
section
variable (k ps ns Y σ0 s0 b kk cs)
def XZ(g:av)(s:St):Prop:=∃a,G3 ag Q6 Y (At σ0 s0 (nv k ps ns Y.C Y.Wg ns.length) d5 a) (b.aT a (.inRegion yJ [0]::.code rm::kk)) cs g s
def TF(g:av)(s:St):Prop:=∃a,TW ag Q6 Y (At σ0 s0 (nv k ps ns Y.C Y.Wg ns.length) d5 a) (G (b.aT (a.put (aa 28) (.tuple #[])) (.inRegion yJ []::.code rm::kk)) cs) g s
end
def anF(e:NP Y.Wg s0)(c:b.roundOf=af){g:av}{s:St}(h:XZ k ps ns Y σ0 s0 b kk cs g s):
  eC (Cx.lead ag 215 Y.Wg) (Es Y.Wg) (AtW1 ag 215 Y (TF k ps ns Y σ0 s0 b kk cs) (XZ k ps ns Y σ0 s0 b kk cs)) g s:=by
 obtain⟨a,h⟩:=h;have f:(yJ[0]?).bind (·.dst)=aa 28:=by rw[Hb];rfl
 rw[xP c]at h;refine VM (P:=ag) (L:=Q6) (b₀:=b) (a₀:=⟨a.tmps,a.defers++b.defers⟩) (ops₀:=yJ) (i₀:=0) (rest₀:=[]) (k₀:=.code rm::kk) (cs:=cs) C7 (At.apart e) (λg s d=>⟨a,?_⟩) (λg s i=>⟨a,?_⟩) h
 .rw[xP c];rw[f]at d;exact d
 grind[xP]
def Ix{P:ar}{ty:aj}{N n:Nat}{a:av->St->Prop}:∀(r:Nat){g:av}{s:St},eC (Cx.lead P ty Y.Wg) (Es Y.Wg) (λg s=>Spawns P ty Y N val n a r g s) g s->Spawns P ty Y N val n a r g s
 |0,_,_,h=>eC.bind h λ_ _ x=>x
 |_+1,_,_,h=>eC.bind h λ_ _ x=>x
def Pg(z:er (Cx.work ag) 144 (mr k))(y:Y.kc=2)(m:NP Y.Wg s0)(e:b.roundOf=af)(l:b.kind≠.early)(n:σ0.length<=5)(I:ns.length<=4000000)(q:∀i,i<ns.length->val i 0=.string ⟨((de k ps (ns.getD i 0)).getD []).toArray⟩)(t:∀i,i<ns.length->val i 1=.bool (de k ps (ns.getD i 0)).isSome):
  ∀(r:Nat),r<=ns.length->∀(a:Act) (s:St),At σ0 s0 (nv k ps ns Y.C Y.Wg (ns.length-r)) d5 a s->WgLive 215 Y.Wg s.w ->
   Spawns ag 215 Y (2*ns.length) val ns.length (XZ k ps ns Y σ0 s0 b kk cs) r (G (b.aT a (.code iN::.inLoop iN::.inBlock 0::.code nZ::kk)) cs) s:=by
 intro r;induction r with
 |zero =>
  intro _ a s h c;rw[lU]at h;have:=fL.live (E:=Es Y.Wg) (Ta (X:=Cx.lead ag 215 Y.Wg) (kk:=kk) (cs:=cs) (S:=λg s=>∃a,g=G (Frame.enter ag 145 #[.pointer (aa ⟨Y.Wg,0,af⟩)] .normal) (b.aT a (.inRegion yJ [0]::.code rm::kk)::cs)/\At σ0 s0 (nv k ps ns Y.C Y.Wg ns.length) d5 a s) l h λf o d=>.stop ⟨f,rfl,d⟩) (m.step h.st).clear c;refine eC.bind this ?_;rintro g s ⟨⟨a,rfl,h⟩,c⟩;exact VO (P:=ag) (L:=Q6) (Y:=Y) C7 (At.apart m) (λg s H=>⟨a,H⟩) ⟨h,c⟩
 |succ r B =>
  intro J a s h c;have hi:ns.length-(r+1)<ns.length:=by omega
  generalize A:ns.length-(r+1)=i at h hi;have:=fL.live (E:=Es Y.Wg) (toAdd (X:=Cx.lead ag 215 Y.Wg) (kk:=.code nZ::kk) (cs:=cs) (S:=λg s=>∃a,g=G (Frame.enter ag 141 #[.pointer (aa ⟨Y.Wg,0,af⟩),.int .i64 1] .normal) (b.aT a (.inRegion A7 [0]::uo (.code nZ::kk))::cs)/\At σ0 s0 (rV k ps ns Y.C Y.Wg i) d7 a s) hi l h λf o d=>Lx l d λs2 h2=>.stop ⟨f,rfl,h2⟩) (m.step h.st).clear c;refine eC.bind this ?_;rintro g s ⟨⟨a,rfl,h⟩,c⟩;have D:(A7[0]?).bind (·.dst)=aa 25:=by rw[G9];rfl
  rw[xP e];refine Zo (P:=ag) (L:=Q6) (Y:=Y) (F:=At σ0 s0 (rV k ps ns Y.C Y.Wg i) d7 a) C7 (At.apart m) (λs x=>?_) ⟨h,c⟩;rw[D];have:=fL.live (E:=Es Y.Wg) (ZA (X:=Cx.lead ag 215 Y.Wg) (kk:=.code nZ::kk) (cs:=cs) (S:=λg s=>∃v a,g=G (b.aT a (.inRegion yI [1]::.inBlock 1::.code NO::.inLoop iN::.inBlock 0::.code nZ::kk)) cs/\At σ0 s0 (rV k ps ns Y.C Y.Wg i) d7 a s/\Rd s.M v (Fs k ps ns Y.C Y.Wg i)/\a.tmps.getD 26 ai=v) l x.1 λv f o d p j=>.stop ⟨v,f,rfl,d,p,j⟩) (m.step x.1.st).clear x.2;rw[xP e]at this;refine eC.bind this ?_;rintro g s ⟨⟨v,a,rfl,h,p,j⟩,c⟩;rw[A];refine⟨.leaf,V6 z y e l hi (q i hi) (t i hi) h c p j λo d u=>?_⟩;refine Ix r ?_;have:=fL.live (E:=Es Y.Wg) (S9 (X:=Cx.lead ag 215 Y.Wg) (kk:=.code nZ::kk) (cs:=cs) (S:=λg s=>∃a,g=G (b.aT a (.code iN::.inLoop iN::.inBlock 0::.code nZ::kk)) cs/\At σ0 s0 (nv k ps ns Y.C Y.Wg (i+1)) d5 a s) hi I l n d λf o d=>.stop ⟨f,rfl,d⟩) (m.step d.st).clear u;refine eC.bind this ?_;rintro g s ⟨⟨a,rfl,h⟩,c⟩;refine⟨.leaf,B (by omega) a s ?_ c⟩;grind
end
end
section
open Go.Sort (swp insInner insOuter ltInt)
variable {X:Cx ag}
def MJ(n:Int):Ev X 222 [dI n] [] (dB ae) []:=by refine Ev.bQ Tryz.func222 rfl λa=>?_;exact aX [(5,ae)] rfl (by simp) (AK.bz rfl)
abbrev W2:dv:=kL aI (λ_=>dB ae) λ_=>[]
def aaf:er X 222 W2:=.pS λn _=>MJ n
def PW(x y:Int):Ev X 197 [dI x,dI y] [] (dB (ltInt x y)) []:=by have a:bL X [(222,W2)]:=.cons aaf .nil;refine Ev.bQ Tryz.func197 rfl λb=>?_;refine b8 a rfl (by simp) (AK.bz rfl ?_);simp[ltInt]
abbrev vb:dv:=pj aI aI (λx y=>dB (ltInt x y)) λ_ _=>[]
def ye:er X 197 vb:=.tf λx y _=>PW x y
def eI(d:Array Int)(j:Nat):List C:=[.int .i64 d[j]!]
abbrev kX(n:Nat):D:=.e (.one (.bp 0 (.sl n 1 0 n)))
abbrev bI(n:Nat)(d:Array Int):aR:=.buf 3 1 n (eI d)
def iz:∀j,j<1->([0]:List Nat)[j]?=aa j:=λj a=>by grind
end
section
open Go.Sort (swp insInner insOuter insertionSort ltInt)
variable {X:Cx ag}
def iq{d:Array Int}{i j n:Nat}(c:d.size=n)(hi:i<n)(e:j<n){f:Nat->List C}(a:cA n f (eI d)):cA n (pH j [.int .i64 d[i]!] (pH i [.int .i64 d[j]!] f)) (eI (swp d i j)):=by
 intro k hk;have g:(swp d i j)[k]! = if k=j then d[i]! else if k=i then d[j]! else d[k]! := by unfold swp;grind
 have b:=a k hk;simp only[eI,pH]at b⊢;grind
theorem size_swp(d:Array Int)(i j:Nat):(swp d i j).size=d.size:=by simp[swp]
theorem Bz{a j:Nat}{d:Array Int}(h:a<j)(b:ltInt d[j]! d[j-1]! = ab):insInner ltInt a j d=insInner ltInt a (j-1) (swp d j (j-1)):=by
 cases j with
 |zero=>omega
 |succ j =>
  simp only[qi]at b⊢;rw[insInner,bl];grind
def tB{a j:Nat}{d:Array Int}(h:a<j->ltInt d[j]! d[j-1]! = ae):insInner ltInt a j d=d:=by
 cases j with
 |zero=>rfl
 |succ j =>
  simp only[qi]at h;rw[insInner,aY];grind
theorem T6(n:Nat)(d:Array Int)(a b:Nat)(r:d.size=n)(w:b<=n)(u:a<=n)(v:n<=4000000):
  Ev X 191 [kX n,dI a,dI b] [bI n d] (.fa []) [bI n (insertionSort ltInt d a b)]:=by
 have l:bL X [(197,vb)]:=.cons ye .nil;refine Ev.bQ Tryz.func191 rfl λt=>?_;refine bt rfl (by simp[bD];omega) ?_;refine AK.cE 1 (λs:Nat×Array Int=>s.2.size=n/\a+1<=s.1/\s.1<=n+1/\insOuter ltInt a b s.1 s.2=insertionSort ltInt d a b) (λs=>[(0,kX n),(1,dI a),(2,dI b),(6,dI s.1)]) (λs=>[bI n s.2]) (λs=>b-s.1) (a+1,d) rfl ?_ rfl ?_ rfl ⟨r,by omega,by grind,rfl⟩ ?_
 .simp[cA]
 .simp[cA]
 rintro⟨i,d1⟩ ⟨m,hi,g,e⟩;simp only at m hi g e;by_cases h:i<b
 .refine aX [(12,ab)] rfl (by simp;omega) ?_;refine AK.cE 1 (λs:Nat×Array Int=>s.2.size=n/\s.1<=i/\insInner ltInt a s.1 s.2=insInner ltInt a i d1) (λs=>[(0,kX n),(1,dI a),(2,dI b),(6,dI i),(7,dI s.1)]) (λs=>[bI n s.2]) (λs=>s.1) (i,d1) rfl ?_ rfl ?_ rfl ⟨m,by simp,rfl⟩ ?_
  .simp[cA]
  .simp[cA]
  rintro⟨j,d2⟩ ⟨f,p,c⟩;simp only at f p c;by_cases q:a<j
  .have k:((j:Int)-1).toNat=j-1:=by omega
   by_cases o:ltInt d2[j]! d2[j-1]! = ab
   .refine aW l [(18,ab),(29,ab)] rfl ?_ ?_
    .simp[bD,k,o];omega
    refine AK.aQ (j-1,swp d2 j (j-1)) rfl ?_ ?_ ?_ ?_
    .simp;omega
    .simp only[az.cat,az,k,bF,cf,aE,aG];exact iq f (by omega) (by omega) (λ_ _=>rfl)
    .refine⟨by grind[size_swp],by omega,?_⟩;grind[Bz]
    .simp;omega
   .refine aW l [(18,ab),(29,ae)] rfl ?_ (AK.leaveD rfl rfl ?_)
    .simp[bD,k,o];omega
    refine bt rfl ?_ (AK.aQ (i+1,d2) rfl ?_ ?_ ?_ ?_)
    .simp[bD];omega
    .simp
    .simp[cA]
    .refine⟨f,by omega,by grind,?_⟩;simp only;rw[<-e,insOuter.eq_1 ltInt a b i,bl h,<-c,tB λ_=>by grind]
    .simp;omega
  .refine aW l [(18,ae)] rfl ?_ (AK.leaveD rfl rfl ?_)
   .simp[bD];omega
   refine bt rfl ?_ (AK.aQ (i+1,d2) rfl ?_ ?_ ?_ ?_)
   .simp[bD];omega
   .simp
   .simp[cA]
   .refine⟨f,by omega,by grind,?_⟩;simp only;rw[<-e,insOuter.eq_1 ltInt a b i,bl h,<-c,tB λx=>absurd x q]
   .simp;omega
 .refine aX [(12,ae)] rfl (by simp;omega) (AK.leaveD rfl rfl ?_);have:insertionSort ltInt d a b=d1:=by rw[<-e,insOuter,aY h]
  rw[this];exact cw.pO [0] rfl ay rfl rfl rfl iz
end
section
open Go.Sort (swp siftDown ltInt)
variable {X:Cx ag}
def MR{hi first root:Nat}{d:Array Int}(h:¬2*root+1<hi):siftDown ltInt hi first root d=d:=by rw[siftDown,dif_pos (by omega)]
theorem MS{hi first root:Nat}{d:Array Int}(h:2*root+1<hi)(b:2*root+1+1<hi->ltInt d[first+(2*root+1)]! d[first+(2*root+1)+1]! = ae)(a:ltInt d[first+root]! d[first+(2*root+1)]! = ab):
  siftDown ltInt hi first root d=siftDown ltInt hi first (2*root+1) (swp d (first+root) (first+(2*root+1))):=by rw[siftDown.eq_1 ltInt hi first root d,dif_neg (by omega),aY (by grind),aY (by grind)]
theorem Hx{hi first root:Nat}{d:Array Int}(h:2*root+1<hi)(b:2*root+1+1<hi->ltInt d[first+(2*root+1)]! d[first+(2*root+1)+1]! = ae)(a:ltInt d[first+root]! d[first+(2*root+1)]! = ae):
  siftDown ltInt hi first root d=d:=by rw[siftDown.eq_1 ltInt hi first root d,dif_neg (by omega),aY (by grind),bl (by grind)]
theorem T9{hi first root:Nat}{d:Array Int}(h:2*root+1+1<hi)(b:ltInt d[first+(2*root+1)]! d[first+(2*root+1+1)]! = ab)(a:ltInt d[first+root]! d[first+(2*root+1+1)]! = ab):
  siftDown ltInt hi first root d=siftDown ltInt hi first (2*root+1+1) (swp d (first+root) (first+(2*root+1+1))):=by rw[siftDown.eq_1 ltInt hi first root d,dif_neg (by omega),bl (by grind),aY (by grind),dif_pos (by omega)]
theorem P1{hi first root:Nat}{d:Array Int}(h:2*root+1+1<hi)(b:ltInt d[first+(2*root+1)]! d[first+(2*root+1+1)]! = ab)(a:ltInt d[first+root]! d[first+(2*root+1+1)]! = ae):
  siftDown ltInt hi first root d=d:=by rw[siftDown.eq_1 ltInt hi first root d,dif_neg (by omega),bl (by grind),bl (by grind)]
theorem P2(n:Nat)(d:Array Int)(lo hi first:Nat)(o:d.size=n)(t:first+hi<=n)(m:lo<=n)(r:n<=4000000):
  Ev X 217 [kX n,dI lo,dI hi,dI first] [bI n d] (.fa []) [bI n (siftDown ltInt hi first lo d)]:=by
 have g:bL X [(197,vb)]:=.cons ye .nil;refine Ev.bQ Tryz.func217 rfl λp=>?_;refine bt rfl ay ?_;refine AK.cE 1 (λs:Nat×Array Int=>s.2.size=n/\s.1<=n/\siftDown ltInt hi first s.1 s.2=siftDown ltInt hi first lo d) (λs=>[(0,kX n),(1,dI lo),(2,dI hi),(3,dI first),(8,dI s.1)]) (λs=>[bI n s.2]) (λs=>hi-s.1) (lo,d) rfl ?_ rfl ?_ rfl ⟨o,m,rfl⟩ ?_
 .simp[cA]
 .simp[cA]
 rintro⟨root,d1⟩ ⟨j,l,f⟩;simp only at j l f;by_cases h:2*root+1<hi
 .have e:((first:Int)+(2*(root:Int)+1)).toNat=first+(2*root+1):=by omega
  have c:((first:Int)+(2*(root:Int)+1)+1).toNat=first+(2*root+1+1):=by omega
  by_cases q:2*root+1+1<hi
  .by_cases i:ltInt d1[first+(2*root+1)]! d1[first+(2*root+1+1)]! = ab
   .have k:((first:Int)+(2*(root:Int)+1+1)).toNat=first+(2*root+1+1):=by omega
    have b:((first:Int)+(root:Int)).toNat=first+root:=by omega
    by_cases a:ltInt d1[first+root]! d1[first+(2*root+1+1)]! = ab
    .refine bn g [(16,ae),(20,ab),(35,ab),(51,ab)] rfl ?_ (AK.aQ (2*root+1+1,swp d1 (first+root) (first+(2*root+1+1))) rfl ?_ ?_ ?_ ?_)
     .simp only[az,bF,e,c,b,k,i,a,bD,a9,bS,aG,aE];and_intros<;>omega
     .simp only[az.cat,az,aG,aE];grind
     .simp only[az.cat,az,bF,e,c,b,k,aE,aG];exact iq j (by omega) (by omega) (λ_ _=>rfl)
     .grind [size_swp,T9]
     grind
    .rw[ou]at a;rw[show siftDown ltInt hi first lo d=d1 by grind[P1]];refine bn g [(16,ae),(20,ab),(35,ab),(51,ae)] rfl ?_ (AK.fQ (cw.mk [0] rfl ay rfl rfl rfl iz));simp only[az,bF,e,c,b,k,i,a,bD,a9,bS,aG,aE];and_intros<;>omega
   .rw[ou]at i;have b:((first:Int)+(root:Int)).toNat=first+root:=by omega
    by_cases a:ltInt d1[first+root]! d1[first+(2*root+1)]! = ab
    .refine bn g [(16,ae),(20,ab),(35,ae),(51,ab)] rfl ?_ (AK.aQ (2*root+1,swp d1 (first+root) (first+(2*root+1))) rfl ?_ ?_ ?_ ?_)
     .simp only[az,bF,e,c,b,i,a,bD,a9,bS,aG,aE];and_intros<;>omega
     .simp only[az.cat,az,aG,aE];grind
     .simp only[az.cat,az,bF,e,c,b,aE,aG];exact iq j (by omega) (by omega) (λ_ _=>rfl)
     .grind [size_swp,MS]
     grind
    .rw[ou]at a;rw[show siftDown ltInt hi first lo d=d1 by grind[Hx]];refine bn g [(16,ae),(20,ab),(35,ae),(51,ae)] rfl ?_ (AK.fQ (cw.mk [0] rfl ay rfl rfl rfl iz));simp only[az,bF,e,c,b,i,a,bD,a9,bS,aG,aE];and_intros<;>omega
  .have i:True:=ay;have b:((first:Int)+(root:Int)).toNat=first+root:=by omega
   by_cases a:ltInt d1[first+root]! d1[first+(2*root+1)]! = ab
   .refine bn g [(16,ae),(20,ae),(51,ab)] rfl ?_ (AK.aQ (2*root+1,swp d1 (first+root) (first+(2*root+1))) rfl ?_ ?_ ?_ ?_)
    .simp only[az,bF,e,c,b,a,bD,a9,bS,aG,aE];and_intros<;>omega
    .simp only[az.cat,az,aG,aE];grind
    .simp only[az.cat,az,bF,e,c,b,aE,aG];exact iq j (by omega) (by omega) (λ_ _=>rfl)
    .grind [size_swp,MS]
    grind
   .rw[ou]at a;rw[show siftDown ltInt hi first lo d=d1 by grind[Hx]];refine bn g [(16,ae),(20,ae),(51,ae)] rfl ?_ (AK.fQ (cw.mk [0] rfl ay rfl rfl rfl iz));simp only[az,bF,e,c,b,a,bD,a9,bS,aG,aE];and_intros<;>omega
 .refine aX [(16,ab)] rfl (by simp only[az,bD,a9,aG,aE];and_intros<;>omega) (AK.leaveD rfl rfl ?_);rw[<-f,MR h];exact cw.pO [0] rfl ay rfl rfl rfl iz
end
section
open Go.Sort (swp order2 median medianAdjacent choosePivot Hint ltInt)
variable {X:Cx ag}
abbrev bN(k:Nat):aR:=.cells 3 [.c (.int .i64 k)]
abbrev UE:D:=.e (.one (.ptr 1 0))
abbrev tII(a b:Nat):D:=.fa [.one (.c (.int .i64 a)),.one (.c (.int .i64 b))]
def Hy:∀j,j<2->([0,1]:List Nat)[j]?=aa j:=λj a=>by grind
def uE(n:Nat)(d:Array Int)(a b sw:Nat)(i:a<n)(k:b<n)(j:n<=4000000)(f:sw<=1000):
  Ev X 236 [kX n,dI a,dI b,UE] [bI n d,bN sw] (tII (order2 ltInt d a b sw).1 (order2 ltInt d a b sw).2.1) [bI n d,bN (order2 ltInt d a b sw).2.2]:=by
 have c:bL X [(197,vb)]:=.cons ye .nil;refine Ev.bQ Tryz.func236 rfl λg=>?_;by_cases h:ltInt d[b]! d[a]! = ab
 .have e:order2 ltInt d a b sw=(b,a,sw+1):=by simp[order2,h]
  rw[e];refine bn c [(18,ab)] rfl ?_ (AK.dk [0,1] rfl ?_ rfl rfl rfl Hy)
  .simp only[az,bF,cf,h,bD,aG,aE];and_intros<;>omega
  .simp
 .have e:order2 ltInt d a b sw=(a,b,sw):=by simp[order2,h]
  rw[e];rw[ou]at h;refine bn c [(18,ae)] rfl ?_ (AK.dk [0,1] rfl ?_ rfl rfl rfl Hy)
  .simp only[az,bF,cf,h,bD,aG,aE];and_intros<;>omega
  .simp
def od{d:Array Int}{a b sw n:Nat}(c:a<n)(e:b<n):(order2 ltInt d a b sw).1<n/\(order2 ltInt d a b sw).2.1<n/\(order2 ltInt d a b sw).2.2<=sw+1:=by unfold order2;split<;>simp only<;>omega
theorem zI(n:Nat)(d:Array Int)(a b c sw:Nat)(g:a<n)(h:b<n)(i:c<n)(f:n<=4000000)(j:sw<=900):
  Ev X 221 [kX n,dI a,dI b,dI c,UE] [bI n d,bN sw] (dI (median ltInt d a b c sw).1) [bI n d,bN (median ltInt d a b c sw).2]:=by refine Ev.bQ Tryz.func221 rfl λl=>?_;have e:=od (d:=d) (sw:=sw) g h;have k:=od (d:=d) (sw:=(order2 ltInt d a b sw).2.2) e.2.1 i;refine dm rfl ay ?_;refine AK.cQ (uE n d a b sw g h f (by omega)) [0,1] rfl ?_;refine dm rfl ay ?_;refine AK.cQ (uE n d (order2 ltInt d a b sw).2.1 c (order2 ltInt d a b sw).2.2 e.2.1 i f (by omega)) [0,1] rfl ?_;refine dm rfl ay ?_;refine AK.cQ (uE n d (order2 ltInt d a b sw).1 (order2 ltInt d (order2 ltInt d a b sw).2.1 c (order2 ltInt d a b sw).2.2).1 (order2 ltInt d (order2 ltInt d a b sw).2.1 c (order2 ltInt d a b sw).2.2).2.2 e.1 k.1 f (by omega)) [0,1] rfl ?_;refine dm rfl ay (AK.dk [0,1] rfl ?_ rfl rfl rfl Hy);simp[median]
def Jb{d:Array Int}{a b c sw n:Nat}(f:a<n)(h:b<n)(g:c<n):(median ltInt d a b c sw).1<n/\(median ltInt d a b c sw).2<=sw+3:=by have e:=od (d:=d) (sw:=sw) f h;have i:=od (d:=d) (sw:=(order2 ltInt d a b sw).2.2) e.2.1 g;have j:=od (d:=d) (sw:=(order2 ltInt d (order2 ltInt d a b sw).2.1 c (order2 ltInt d a b sw).2.2).2.2) e.1 i.1;unfold median;grind
theorem BA(n:Nat)(d:Array Int)(a sw:Nat)(f:1<=a)(g:a+1<n)(c:n<=4000000)(b:sw<=900):
  Ev X 220 [kX n,dI a,UE] [bI n d,bN sw] (dI (medianAdjacent ltInt d a sw).1) [bI n d,bN (medianAdjacent ltInt d a sw).2]:=by
 refine Ev.bQ Tryz.func220 rfl λe=>?_;obtain⟨a,rfl⟩:∃a',a=a'+1:=⟨a-1,by omega⟩
 refine dm rfl (by simp only[az,bD];and_intros<;>omega) ?_;have key:∀x y z:Int,x=(a:Int)->y=((a+1:Nat):Int)->z=((a+1+1:Nat):Int)->Ev X 221 [kX n,dI x,dI y,dI z,UE] [bI n d,bN sw] (dI (median ltInt d a (a+1) (a+1+1) sw).1) [bI n d,bN (median ltInt d a (a+1) (a+1+1) sw).2]:=by rintro x y z rfl rfl rfl;exact zI n d a (a+1) (a+1+1) sw (by omega) (by omega) (by omega) c b
 refine AK.cQ (key (((a+1:Nat):Int)-1) _ (((a+1:Nat):Int)+1) (by omega) rfl (by omega)) [0,1] rfl ?_;refine dm rfl ay (AK.dk [0,1] rfl ?_ rfl rfl rfl Hy);simp[medianAdjacent]
def oc:Hint->Int|.unknown=>0|.increasing=>1|.decreasing=>2
def yh(n:Nat)(d:Array Int){a b c:Nat}(sw:Nat)(h:a<n)(k:b<n)(l:c<n)(j:n<=4000000)(e:sw<=900){x y z:Int}(f:x=a)(i:y=b)(g:z=c):
  Ev X 221 [kX n,dI x,dI y,dI z,UE] [bI n d,bN sw] (dI (median ltInt d a b c sw).1) [bI n d,bN (median ltInt d a b c sw).2]:=by grind[zI]
def nA(n:Nat)(d:Array Int){a:Nat}(sw:Nat)(e:1<=a)(g:a+1<n)(f:n<=4000000)(b:sw<=900){x:Int}(c:x=a):
  Ev X 220 [kX n,dI x,UE] [bI n d,bN sw] (dI (medianAdjacent ltInt d a sw).1) [bI n d,bN (medianAdjacent ltInt d a sw).2]:=by grind[BA]
def oQ{d:Array Int}{a sw n:Nat}(b:1<=a)(c:a+1<n):(medianAdjacent ltInt d a sw).1<n/\(medianAdjacent ltInt d a sw).2<=sw+3 :=
 Jb (by omega) (by omega) (by omega)
abbrev p0(k:Nat):Hint:=if k=0 then .increasing else if k=12 then .decreasing else .unknown
def MT{d:Array Int}{a l:Nat}(c:8<=l)(b:l<50):choosePivot ltInt d a (a+l)=((median ltInt d (a+l / 4*1) (a+l / 4*2) (a+l / 4*3) 0).1,p0 (median ltInt d (a+l / 4*1) (a+l / 4*2) (a+l / 4*3) 0).2):=by unfold choosePivot;grind
abbrev mA(d:Array Int)(a l:Nat):=medianAdjacent ltInt d (a+l / 4*1) 0
abbrev mB(d:Array Int)(a l:Nat):=medianAdjacent ltInt d (a+l / 4*2) (mA d a l).2
abbrev mC(d:Array Int)(a l:Nat):=medianAdjacent ltInt d (a+l / 4*3) (mB d a l).2
def MU{d:Array Int}{a l:Nat}(b:50<=l):choosePivot ltInt d a (a+l)=((median ltInt d (mA d a l).1 (mB d a l).1 (mC d a l).1 (mC d a l).2).1,p0 (median ltInt d (mA d a l).1 (mB d a l).1 (mC d a l).1 (mC d a l).2).2):=by unfold choosePivot;grind
def I9(n:Nat)(d:Array Int)(a b:Nat)(j:a<=b)(q:b<=n)(i:8<=b-a)(g:n<=4000000):
  Ev X 194 [kX n,dI a,dI b] [bI n d] (.fa [.one (.c (.int .i64 (choosePivot ltInt d a b).1)),.one (.c (.int .i64 (oc (choosePivot ltInt d a b).2)))]) [bI n d]:=by
 refine Ev.bQ Tryz.func194 rfl λk=>?_;obtain⟨l,rfl⟩:∃l,b=a+l:=⟨b-a,by omega⟩
 rw[zX]at i;by_cases h:l<50
 .refine bO [(32,ab),(34,ae)] rfl ?_ ?_
  .simp only[az,bD,a9,bS,aG,aE];and_intros<;>omega
  refine AK.cQ (yh n d (a:=a+l / 4*1) (b:=a+l / 4*2) (c:=a+l / 4*3) 0 (by omega) (by omega) (by omega) g (by omega) (by omega) (by omega) (by omega)) [0,1] rfl ?_;rw[MT i h];generalize median ltInt d (a+l / 4*1) (a+l / 4*2) (a+l / 4*3) 0=r;by_cases e:r.2=0
  .refine bO [(52,ab)] rfl (by simp[e]) (AK.dk [0] rfl ?_ rfl rfl rfl iz);simp[e,oc,p0]
  by_cases f:r.2=12
  .refine bO [(52,ae),(55,ab)] rfl (by simp[f]) (AK.dk [0] rfl ?_ rfl rfl rfl iz);simp[f,oc,p0]
  .refine bO [(52,ae),(55,ae)] rfl (by simp[e];omega) (AK.dk [0] rfl ?_ rfl rfl rfl iz);simp[e,f,oc,p0]
 .refine bO [(32,ab),(34,ab)] rfl ?_ ?_
  .simp only[az,bD,a9,bS,aG,aE];and_intros<;>omega
  have m:(mA d a l).1<n/\(mA d a l).2<=0+3:=oQ (d:=d) (a:=a+l / 4*1) (sw:=0) (n:=n) (by omega) (by omega);have p:(mB d a l).1<n/\(mB d a l).2<=(mA d a l).2+3:=oQ (d:=d) (a:=a+l / 4*2) (sw:=(mA d a l).2) (n:=n) (by omega) (by omega);have o:(mC d a l).1<n/\(mC d a l).2<=(mB d a l).2+3:=oQ (d:=d) (a:=a+l / 4*3) (sw:=(mB d a l).2) (n:=n) (by omega) (by omega);refine AK.cQ (nA n d (a:=a+l / 4*1) 0 (by omega) (by omega) g (by omega) (by omega)) [0,1] rfl ?_;refine dm rfl ay ?_;refine AK.cQ (nA n d (a:=a+l / 4*2) (mA d a l).2 (by omega) (by omega) g (by omega) (by omega)) [0,1] rfl ?_;refine dm rfl ay ?_;refine AK.cQ (nA n d (a:=a+l / 4*3) (mB d a l).2 (by omega) (by omega) g (by omega) (by omega)) [0,1] rfl ?_;refine dm rfl ay ?_;refine AK.cQ (yh n d (a:=(mA d a l).1) (b:=(mB d a l).1) (c:=(mC d a l).1) (mC d a l).2 (by omega) (by omega) (by omega) g (by omega) rfl rfl rfl) [0,1] rfl ?_;rw[MU (by omega)];generalize median ltInt d (mA d a l).1 (mB d a l).1 (mC d a l).1 (mC d a l).2=r;by_cases e:r.2=0
  .refine bO [(52,ab)] rfl (by simp[e]) (AK.dk [0] rfl ?_ rfl rfl rfl iz);simp[e,oc,p0]
  by_cases f:r.2=12
  .refine bO [(52,ae),(55,ab)] rfl (by simp[f]) (AK.dk [0] rfl ?_ rfl rfl rfl iz);simp[f,oc,p0]
  .refine bO [(52,ae),(55,ae)] rfl (by simp[e];omega) (AK.dk [0] rfl ?_ rfl rfl rfl iz);simp[e,f,oc,p0]
end
section
open Go.Sort (swp reverseLoop reverseRange siftDown heapBuild heapPop heapSort ltInt)
variable {X:Cx ag}
def T8(n:Nat)(d:Array Int)(a b:Nat)(k:d.size=n)(m:1<=b)(o:a<=n)(q:b<=n)(p:n<=4000000):Ev X 195 [kX n,dI a,dI b] [bI n d] (.fa []) [bI n (reverseRange d a b)]:=by
 refine Ev.bQ Tryz.func195 rfl λl=>?_;refine bt rfl (by simp[bD];omega) ?_;refine AK.cE 1 (λs:Nat×Nat×Array Int=>s.2.2.size=n/\s.1<=n/\s.2.1<n+1/\s.2.1<n/\reverseLoop s.1 s.2.1 s.2.2=reverseRange d a b) (λs=>[(0,kX n),(6,dI s.1),(7,dI s.2.1)]) (λs=>[bI n s.2.2]) (λs=>s.2.1-s.1) (a,b-1,d) rfl ?_ rfl ?_ rfl ⟨k,by grind,by grind,by grind,rfl⟩ ?_
 .simp;omega
 .simp[cA]
 rintro⟨i,j,d1⟩ ⟨f,hi,_,g,c⟩;simp only at f hi g c;by_cases h:i<j
 .refine bO [(13,ab)] rfl ?_ (AK.aQ (i+1,j-1,swp d1 i j) rfl ?_ ?_ ?_ ?_)
  .simp only[az,bF,cf,bD,a9,aG,aE];and_intros<;>omega
  .simp only[az.cat,az,aG,aE];and_intros<;>omega
  .simp only[az.cat,az,bF,cf,aE,aG];exact iq f (by omega) (by omega) (λ_ _=>rfl)
  .refine⟨by grind[size_swp],by grind,by grind,by grind,?_⟩;rw[<-c,reverseLoop.eq_1 i j d1,bl h]
  grind
 .have e:reverseRange d a b=d1:=by rw[<-c,reverseLoop,aY h]
  rw[e];refine aX [(13,ae)] rfl (by simp;omega) (AK.leaveD rfl rfl ?_);exact cw.pO [0] rfl ay rfl rfl rfl iz
def DO(n:Nat)(d:Array Int){lo hi first:Nat}(e:d.size=n)(g:first+hi<=n)(c:lo<=n)(f:n<=4000000){x y z:Int}(a:x=lo)(h:y=hi)(b:z=first):
  Ev X 217 [kX n,dI x,dI y,dI z] [bI n d] (.fa []) [bI n (siftDown ltInt hi first lo d)]:=by grind[P2]
def zJ(hi first:Nat):∀(m root:Nat)(d:Array Int),hi-root<=m->(siftDown ltInt hi first root d).size=d.size:=by
 intro m;induction m with
 |zero=>intro root d h;rw[siftDown,dif_pos (by omega)]
 |succ m a =>
  intro root d h;rw[siftDown];grind[size_swp]
theorem PZ(n:Nat)(d:Array Int)(a b:Nat)(p:d.size=n)(q:a<=b)(o:1<=b-a)(r:b<=n)(j:n<=4000000):Ev X 192 [kX n,dI a,dI b] [bI n d] (.fa []) [bI n (heapSort ltInt d a b)]:=by
 refine Ev.bQ Tryz.func192 rfl λt=>?_;obtain⟨l,rfl⟩:∃l,b=a+l:=⟨b-a,by omega⟩
 rw[zX]at o;refine dm rfl (by simp only[az,bD,aG,aE];and_intros<;>omega) ?_;refine AK.lj (S2:=Array Int) 0 rfl rfl (λd2=>d2.size=n/\d2=heapBuild ltInt l a ((l-1) / 2+1) d) (λ_=>[(0,kX n),(6,dI a),(7,dI 0),(8,dI l)]) (λd2=>[bI n d2]) 1 (λs:Nat×Array Int=>s.2.size=n/\s.1<=(l-1) / 2+1/\heapBuild ltInt l a s.1 s.2=heapBuild ltInt l a ((l-1) / 2+1) d) (λs=>[(0,kX n),(6,dI a),(7,dI 0),(8,dI l),(9,dI ((s.1:Int)-1))]) (λs=>[bI n s.2]) (λs=>s.1) ((l-1) / 2+1,d) rfl ?_ rfl ?_ rfl ⟨p,bc _,rfl⟩ ?_ ?_
 .simp;omega
 .simp[cA]
 .rintro out ⟨k,d1⟩ ⟨e,hk,c⟩;simp only at e hk c;cases k with
  |zero =>
   refine aX [(19,ae)] rfl (by simp) (AK.leaveD rfl rfl ?_);exact out d1 ⟨e,c⟩ rfl (by simp) rfl (by simp[cA])
  |succ k =>
   refine aX [(19,ab)] rfl (by simp only[az,a9];omega) ?_;refine AK.cQ (DO n d1 (lo:=k) (hi:=l) (first:=a) e r (by omega) j (by omega) rfl rfl) [0] rfl ?_;refine dm rfl ?_ (AK.aQ (k,siftDown ltInt l a k d1) rfl ?_ ?_ ?_ ?_)
   .simp only[az,bD];omega
   .simp only[az.cat,az,aG,aE];omega
   .simp[cA]
   .exact⟨by rw[zJ _ _ _ _ _ (bc _)];exact e,by grind,c⟩
   .simp
 rintro h ⟨g,m⟩;refine dm rfl (by simp only[az,bD];omega) ?_;have f:heapSort ltInt d a (a+l)=heapPop ltInt a l h:=by unfold heapSort;grind
 rw[f];refine AK.cE 1 (λs:Nat×Array Int=>s.2.size=n/\s.1<=l/\heapPop ltInt a s.1 s.2=heapPop ltInt a l h) (λs=>[(0,kX n),(6,dI a),(7,dI 0),(8,dI l),(10,dI ((s.1:Int)-1))]) (λs=>[bI n s.2]) (λs=>s.1) (l,h) rfl ?_ rfl ?_ rfl ⟨g,bc _,rfl⟩ ?_
 .simp
 .simp[cA]
 rintro⟨k,d1⟩ ⟨e,hk,c⟩;simp only at e hk c;cases k with
 |zero =>
  rw[<-c];refine aX [(30,ae)] rfl (by simp) (AK.leaveD rfl rfl ?_);exact cw.pO [0] rfl ay rfl rfl rfl iz
 |succ k =>
  have i:((a:Int)+(((k+1:Nat):Int)-1)).toNat=a+k:=by omega
  refine bO [(30,ab),(1000011,ab)] rfl ?_ ?_
  .simp only[az,bF,cf,i,bD,a9,aG,aE];and_intros<;>omega
  refine AK.norm [bI n (swp d1 a (a+k))] rfl ?_ ?_
  .simp only[az.cat,az,bF,cf,i,aE,aG];exact iq e (by omega) (by omega) (λ_ _=>rfl)
  refine dm rfl ay ?_;refine AK.cQ (DO n (swp d1 a (a+k)) (lo:=0) (hi:=k) (first:=a) (by grind[size_swp]) (by omega) (by omega) j rfl (by omega) rfl) [0] rfl ?_;refine dm rfl ?_ (AK.aQ (k,siftDown ltInt k a 0 (swp d1 a (a+k))) rfl ?_ ?_ ?_ ?_)
  .simp only[az,bD];omega
  .simp only[az.cat,az,aG,aE];omega
  .simp[cA]
  .exact⟨by rw[zJ _ _ _ _ _ (bc _),size_swp];exact e,by grind,c⟩
  .simp
end
section
open Go.Sort (bitsLen)
variable {X:Cx ag}
def yN:List UInt8:=(bh 256).map λi=>UInt8.ofNat (bitsLen i)
def kR{x k:Nat}(h:x<2 ^ k):bitsLen x<=k:=by
 unfold bitsLen;split
 .omega
 .rename_i a;have:=(Nat.log2_lt a).2 h;omega
theorem P3{x:Nat}(h:x<256):(jb yN x).toNat=bitsLen x:=by unfold jb yN;rw[cf,ak,nk,List.getElem?_range h];have:=kR (x:=x) (k:=8) h;grind[UInt8.toNat_ofNat']
def vc{n k:Nat}(h:2 ^ k<=n):bitsLen n=k+bitsLen (n / 2 ^ k):=by
 have a:0<2 ^ k:=Nat.two_pow_pos k;have c:0<n / 2 ^ k:=Nat.div_pos h a;unfold bitsLen;rw[aY (by omega),aY (by omega)];have d:Nat.log2 n=k+Nat.log2 (n / 2 ^ k):=by
  rw[Nat.log2_eq_iff (by omega)];have b:=Nat.log2_self_le (n:=n / 2 ^ k) (by omega);have e:=Nat.lt_log2_self (n:=n / 2 ^ k);constructor
  .rw[Nat.pow_add,Nat.mul_comm];exact iZ (eP _ b) (Nat.div_mul_le_self n _)
  .rw[show k+Nat.log2 (n / 2 ^ k)+1=k+(Nat.log2 (n / 2 ^ k)+1) by omega,Nat.pow_add];grind[Nat.div_lt_iff_lt_mul]
 omega
set_option maxRecDepth 100000 in
def MV(n:Nat)(i:n<=4000000):Ev X 201 [dQ n] [] (dI (bitsLen n)) []:=by
 refine Ev.bQ Tryz.func201 rfl λh=>?_;have fin:∀{T:List UInt8} {x:Nat},T=yN->x<256->(jb T (x:Int)).toNat=bitsLen x:=λhT hx=>by grind[P3]
 have c:∀{T:List UInt8},T=yN->T.length=256:=λhT=>by rw[hT];rfl
 by_cases f:65536<=n
 .have b:((n:Int).toNat / 2 ^ Int.toNat 16)=n / 65536:=by simp
  have e:bitsLen n=16+bitsLen (n / 65536):=vc (n:=n) (k:=16) f;have d:=kR (x:=n / 65536) (k:=8) (by grind);refine bO [(4,ae),(8,ab),(14,ae)] rfl ?_ (AK.bz rfl ?_)
  .generalize hT:(ByteArray.data _).toList=T;have a:T=yN:=by rw[<-hT];decide +kernel
   simp only[az,b,fin a (show n / 65536<256 by omega),c a,bD,a9,bS];and_intros<;>omega
  .generalize hT:(ByteArray.data _).toList=T;have a:T=yN:=by rw[<-hT];decide +kernel
   simp only[az,az.cat,b,fin a (show n / 65536<256 by omega),aG,aE];omega
 by_cases g:256<=n
 .have b:((n:Int).toNat / 2 ^ Int.toNat 8)=n / 256:=by simp
  have e:bitsLen n=8+bitsLen (n / 256):=vc (n:=n) (k:=8) g;have d:=kR (x:=n / 256) (k:=8) (by grind);refine bO [(4,ae),(8,ae),(14,ab)] rfl ?_ (AK.bz rfl ?_)
  .generalize hT:(ByteArray.data _).toList=T;have a:T=yN:=by rw[<-hT];decide +kernel
   simp only[az,b,fin a (show n / 256<256 by omega),c a,bD,a9,bS];and_intros<;>omega
  .generalize hT:(ByteArray.data _).toList=T;have a:T=yN:=by rw[<-hT];decide +kernel
   simp only[az,az.cat,b,fin a (show n / 256<256 by omega),aG,aE];omega
 .have d:=kR (x:=n) (k:=8) (by grind);refine bO [(4,ae),(8,ae),(14,ae)] rfl ?_ (AK.bz rfl ?_)
  .generalize hT:(ByteArray.data _).toList=T;have a:T=yN:=by rw[<-hT];decide +kernel
   simp only[az,fin a (show n<256 by omega),c a,bD,a9,bS];and_intros<;>omega
  .generalize hT:(ByteArray.data _).toList=T;have a:T=yN:=by rw[<-hT];decide +kernel
   simp only[az,az.cat,fin a (show n<256 by omega),aG,aE];omega
def MQ(n:Nat)(a:n<=4000000):Ev X 153 [dQ n] [] (dI (bitsLen n)) []:=by refine Ev.bQ Tryz.func153 rfl λb=>?_;refine dm rfl ay ?_;refine AK.G6 ?_;refine dm rfl ay ?_;refine AK.cQ (MV n a) [] rfl ?_;exact dm rfl ay (AK.bz rfl)
end
end Go.AM.R1
