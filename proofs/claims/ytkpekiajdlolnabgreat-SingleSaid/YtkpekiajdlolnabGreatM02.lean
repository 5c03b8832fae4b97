/- PROVED: part 2 of the claim's ground. Conditions: those that each theorem names. -/
import Derived.Test.YtkpekiajdlolnabGreatM01
import Derived.Conc.WgGenN3
import Derived.Conc.CrowdStepW
import Derived.Conc.CrowdStepC2
import Derived.Test.YtkpekiajdlolnabGreatChecked
set_option linter.unusedVariables false
set_option linter.unusedSimpArgs false
set_option maxRecDepth 100000
set_option maxHeartbeats 16000000
variable{A:Go.Goroutine->Go.World->Prop} {B Wg i j n r:Nat} {a' g g':Go.Goroutine} {cs up:List Go.Frame} {e:Go.Event} {es:Array Go.Event} {f fr eD:Go.Frame} {fn:Go.FuncId} {k l t':List Go.Item} {o:Go.Oper} {ops:Array Go.Oper} {t:Go.Trace} {td:List Nat} {w w':Go.World} {δ:Nat×Nat} {ρ:Go.Proofs.YtkpekiajdlolnabGreat.Sim.Rel}
open Go.Proofs.Tryz
open Go renaming Goroutine→aa,undef→ae,World→ag,Frame→ao,stepG→ax,Program→ay,deafBehind→az,Trace→aF,TypeId→aL,Value→aM,exitTo→aN,FuncId→aZ,Event→bp,HappensBefore→bG,yielded→bQ,GStep→cn,execOp→co,setCell_eq_setRow→cq
open Go.Conc renaming stepG_region_end→ac,stepG_seq→ah,mem_ofEvents→aj,stepG_skip→aI,aside_setCell→aK,getElem?_append_cases→aV,stepG_ret'→aY,runT_crowd_go→bq,Deaf_other→bz,Leavers→bH,woken_quitsD→bJ,stepG_load_atomic→bP,touch_of→bZ,ofEvent_cell0→cj
open Go.MemAct renaming ofEvent→ai,touch?→aO
open Go.ConcN renaming upd_same→am,upd_ne→aA,get_map_set→bm,WgLive→bu,get_map_set_same→bB,PayAt→cg
open Go.stepG renaming exec→aq,apply→aP,oper→bd
open Option renaming map_eq_some_iff→au,getD_some→bU,map_some→bY
open Nat renaming not_lt_zero→av,eq_zero_or_pos→aS,le_of_lt→bK,le_succ_of_le→cr,le_of_not_lt→cx,lt_irrefl→cB,lt_or_ge→cJ
open Go.MemOp renaming ofEvents→aw
open Go.Conc.Goes renaming cases→aC,stop→aG,step→cw
open Option.some renaming injEq→aD
open List renaming append_cancel_right→aE,append_assoc→aX,mem_toArray→bg,mem_singleton→bh
open Array renaming getElem?_eq_getElem→aH,mem_of_getElem?→bk,getElem?_push_lt→bw,getElem?_map→bL,mem_append→bX
open Bool renaming false_eq_true→aJ,and_eq_true→bE,not_true→bT
open Go.GStep renaming after→aQ
open Go.Region renaming wanted→aR
open Prod.Lex renaming right→aU,left→bj
open Classical renaming byContradiction→aW
open Go.Sem renaming runT_fst→bi,runT→ce
open Go.ConcN.RW renaming refl→bo
open Go.Instr renaming beginRound→bC,enterLoop→bI,takeDeferred→bO,endLoop→bR,endRound→cf
open Go.Frame renaming eval→bD,raise→cz,enter→cN
open Go.CallKind renaming wrapped→bF,early→bN
open Go.Kernel renaming perform→bM
open Go.Trace renaming g?→bV
namespace Go.Proofs.YtkpekiajdlolnabGreat
namespace Ph
section
open Go Go.Conc Go.ConcN Go.RowKit Go.Conc.Lib Go.ConcR.Gen Go.ConcN.Gen Sim
open Go.ConcR (KK wgBlock WgAt stA smA rd wr mk DC0)
section
variable {L:WgLink}
structure RM (ty:aL) (Wg:Nat) (F:Blocks) (w w1:ag):Prop where
 ext:Ext F w w1
 live:bu ty Wg w->bu ty Wg w1
theorem qa {ty:aL} {F:Blocks} {w1:ag} (h:bu ty Wg w) (r:RM ty Wg F w w1):bu ty Wg w1:=r.live h
theorem qP {ty:aL} {F:Blocks} (a b c:ag) (h:RM ty Wg F a b) (k:RM ty Wg F b c):RM ty Wg F a c:=⟨h.ext.trans k.ext,k.live∘h.live⟩
section
variable (P:ay) (ty:aL) (Wg:Nat) (F:Blocks)
def MG (Stop:aa->ag->Prop) (g:aa) (w:ag):Prop:= ∃m,Goes P true (RM ty Wg F) DC0 Stop m g w
def iU (m:Mark) (K:aa->ag->Prop) (g:aa) (w:ag):Prop:=
 g.status=.running/\∃g',ax P true g w=.go g' w #[mk m]/\K g' w
def vJ (K:aa->ag->Prop) (g:aa) (w:ag):Prop:=
 g.status=.running/\∀v:Nat,v<2147483647->WgAt ty Wg w (v*KK) 0->
  ∃g',ax P true g w=.go g' (w.setCell (stA Wg) (.int .u64 ((v+1)*KK))) #[rd (stA Wg),wr (stA Wg)]/\
   ((v=0/\MG P ty Wg F (iU P (.read (smA Wg)) (MG P ty Wg F (iU P .enable K))) g' (w.setCell (stA Wg) (.int .u64 ((v+1)*KK))))\/
    (v≠0/\MG P ty Wg F (iU P .enable K) g' (w.setCell (stA Wg) (.int .u64 ((v+1)*KK)))))
end
section
variable (P:ay) (ty:aL) (Wg:Nat) (F:Blocks)
def Cm (K:aa->ag->Prop):aa->ag->Prop:=MG P ty Wg F (iU P .enable (MG P ty Wg F (iU P (.acquire (stA Wg)) K)))
def Cn (K:aa->ag->Prop) (g:aa) (w:ag):Prop:=
 g.status=.running/\(WgAt ty Wg w 0 0->∃g',ax P true g w=.go g' w #[rd (stA Wg)]/\Cm P ty Wg F K g' w)
def wQ (K:aa->ag->Prop) (g:aa) (w:ag):Prop:=
 g.status=.running/\g.offers=none/\((∃st,WgAt ty Wg w st 0)->ax P true g w=.go {g with status:=.blocked} w #[])/\
  (WgAt ty Wg w 0 1->∃g',ax P true g w=.go g' (w.setCell (smA Wg) (.int .u32 0)) (semEvents (smA Wg))/\MG P ty Wg F (Cn P ty Wg F K) g' (w.setCell (smA Wg) (.int .u32 0)))
def Cq (A:aa->ag->Prop) (K:aa->ag->Prop) (vs:Nat) (g:aa) (w:ag):Prop:=
 g.status=.running/\∀v:Nat,v<2147483648->WgAt ty Wg w (v*KK) 0->
  (v=vs->∃g',ax P true g w=.go g' (w.setCell (stA Wg) (.int .u64 (v*KK+1))) #[rd (stA Wg),wr (stA Wg)]/\MG P ty Wg F (iU P (.write (smA Wg)) (MG P ty Wg F (wQ P ty Wg F K))) g' (w.setCell (stA Wg) (.int .u64 (v*KK+1))))/\
  (v≠vs->∃g',ax P true g w=.go g' w #[rd (stA Wg)]/\MG P ty Wg F A g' w)
def qB (A:aa->ag->Prop) (K:aa->ag->Prop) (g:aa) (w:ag):Prop:=
 g.status=.running/\∀v:Nat,v<2147483648->WgAt ty Wg w (v*KK) 0->∃g',ax P true g w=.go g' w #[rd (stA Wg)]/\
  (v=0->Cm P ty Wg F K g' w)/\(v≠0->MG P ty Wg F (Cq P ty Wg F A K v) g' w)
end
def Anch (L:WgLink) (Wg:Nat) (c:ao) (cs:List ao) (g:aa) (w:ag):Prop:=
 ∃T:Array aM,g=G ((base L.wait).at ⟨T,[]⟩ [.code (L7 L),.inLoop (L7 L),.inBlock 0]) (c::cs)/\T.size=84/\T[0]?=some (.pointer (some ⟨Wg,0,none⟩))/\bu L.tWg Wg w
section
variable {P:ay} {Wg:Nat} {F:Blocks} {b₀:ao} {a₀:Act} {ops₀:Array Oper} {i₀:Nat} {rest₀:List Nat} {k₀:List Item} {cs:List ao}
theorem add1 (H:WgLib P L) {K:aa->ag->Prop} {mT:Nat}
  (hT:∀w,bu L.tWg Wg w->Goes P true (RM L.tWg Wg F) DC0 K mT (G (b₀.at (a₀.put ((ops₀[i₀]?).bind (·.dst)) (.tuple #[])) (.inRegion ops₀ rest₀::k₀)) cs) w)
  (w:ag) (hF:bu L.tWg Wg w):
  MG P L.tWg Wg F (iU P .disable (MG P L.tWg Wg F (vJ P L.tWg Wg F (MG P L.tWg Wg F K))))
   (G ((base L.add).at ⟨#[.pointer (some ⟨Wg,0,none⟩),.int .i64 1,ae,ae,ae,ae,ae,ae,ae,ae,ae,ae,ae,ae,ae,ae,ae,ae,ae,ae,ae,ae,ae,ae,ae,ae,ae,ae,ae,ae,ae,ae,ae,ae,ae,ae,ae,ae,ae,ae,ae,ae,ae,ae,ae,ae,ae,ae,ae,ae,ae,ae,ae,ae,ae,ae,ae,ae,ae,ae,ae,ae,ae,ae,ae,ae,ae,ae,ae,ae,ae,ae,ae,ae,ae,ae,ae,ae,ae,ae,ae,ae,ae,ae,ae,ae,ae,ae,ae,ae,ae,ae,ae,ae,ae,ae,ae,ae,ae,ae,ae,ae,ae,ae,ae,ae,ae,ae,ae,ae,ae,ae,ae,ae,ae,ae,ae],[]⟩ [.code (body_add L)]) (b₀.at a₀ (.inRegion ops₀ (i₀::rest₀)::k₀)::cs)) w:=by
 lib_facts
 simp only[body_add,addFn,bU];refine⟨40,?_⟩
 u_c ah qa hF
 u_cond true qa hF
 u_c ah qa hF
 u_c ah qa hF
 u_reg qa hF
 u_op qa hF
 u_op qa hF
 u_c ac qa hF
 u_cond false qa hF
 u_c aI qa hF
 u_c ah qa hF
 u_reg qa hF
 refine aG (λw1 h1=>?_);replace hF:=qa hF h1;clear h1;refine⟨rfl,_,stepG_mark0 .disable (by simp) rfl rfl (by k_ne) rfl H.f_disable (x_disable_n L) (x_disable_b L) (x_disable_x L) (x_disable_f L),60,?_⟩
 walk_nrm
 u_c ac qa hF
 u_reg qa hF
 u_defer qa hF
 u_c ac qa hF
 u_c ah qa hF
 u_reg qa hF
 u_op qa hF
 u_c ac qa hF
 u_c ah qa hF
 u_c ah qa hF
 u_reg qa hF
 u_bub qa hF
 u_c ac qa hF
 u_cond false qa hF
 u_c aI qa hF
 u_c ah qa hF
 u_reg qa hF
 u_op qa hF
 u_op qa hF
 u_op qa hF
 u_op qa hF
 u_op qa hF
 u_op qa hF
 u_call H.f_uAdd (nm_uAdd L) uAddFn qa hF
 u_c ah qa hF
 u_reg qa hF
 u_op qa hF
 u_c ac qa hF
 u_c ah qa hF
 u_reg qa hF
 u_op qa hF
 u_op qa hF
 u_op qa hF
 u_op qa hF
 refine aG (λw2 h2=>?_);replace hF:=qa hF h2;clear h2;refine⟨rfl,λv hv hw=>?_⟩;rcases aS v with rfl|hvp
 ·replace hw:WgAt L.tWg Wg w2 0 0:=by simpa using hw
  have z:(((0:Nat):Int)+1)*KK=KK:=by simp
  rw[z];have e0:IntKind.u64.wrap (0+4294967296)=KK:=by decide
  refine⟨_,(stepG_add_atomic rfl rfl (by k_ne) rfl H.f_addU64 (x_addU64_n L) (x_addU64_b L) (x_addU64_x L) .u64 (x_addU64_f L) rfl rfl hw.cellSt (hw.thaw 0)).trans (by rw[e0];rfl),.inl ⟨rfl,120,?_⟩⟩;replace hF:bu L.tWg Wg (w2.setCell (stA Wg) (.int .u64 KK)):=⟨_,_,hw.setSt _⟩
  clear hw;simp only[KK]at hF⊢
  walk_nrm
  u_op qa hF
  u_c ac qa hF
  u_c aY qa hF
  u_leave1 H.f_uAdd qa hF
  u_op qa hF
  u_c ac qa hF
  u_c ah qa hF
  u_c ah qa hF
  u_reg qa hF
  u_op qa hF
  u_op qa hF
  u_op qa hF
  u_op qa hF
  u_skip qa hF
  u_skip qa hF
  u_op qa hF
  u_c ac qa hF
  u_cond false qa hF
  u_c aI qa hF
  u_c ah qa hF
  u_reg qa hF
  u_op qa hF
  u_op qa hF
  u_op qa hF
  u_op qa hF
  u_c ac qa hF
  u_c ah qa hF
  u_reg qa hF
  u_op qa hF
  u_op qa hF
  u_op qa hF
  u_op qa hF
  u_c ac qa hF
  u_c ah qa hF
  u_c ah qa hF
  u_reg qa hF
  u_op qa hF
  u_op qa hF
  u_op qa hF
  u_op qa hF
  u_op qa hF
  u_op qa hF
  u_op qa hF
  u_op qa hF
  u_op qa hF
  u_op qa hF
  u_c ac qa hF
  u_cond true qa hF
  u_reg qa hF
  u_op qa hF
  u_op qa hF
  u_op qa hF
  u_conv H.underlying_tPU32 H.room_tU32 (WgLive.cell1 hF).choose_spec qa hF
  refine aG (λw3 h3=>?_);replace hF:=qa hF h3;clear h3;refine⟨rfl,_,stepG_markAt .read (by simp) rfl rfl (by k_ne) rfl H.f_raceRead (x_raceRead_n L) (x_raceRead_b L) (x_raceRead_x L) (x_raceRead_f L) (ad:=⟨Wg,1,none⟩) (by simp[Act.eval]),120,?_⟩
  walk_nrm
  u_c ac qa hF
  u_c ah qa hF
  u_c ah qa hF
  u_reg qa hF
  u_op qa hF
  u_op qa hF
  u_c ac qa hF
  u_cond false qa hF
  u_c aI qa hF
  u_c ah qa hF
  u_c ah qa hF
  u_reg qa hF
  u_op qa hF
  u_op qa hF
  u_op qa hF
  u_skip qa hF
  u_skip qa hF
  u_op qa hF
  u_op qa hF
  u_skip qa hF
  u_skip qa hF
  u_skip qa hF
  u_skip qa hF
  u_op qa hF
  u_c ac qa hF
  u_cond false qa hF
  u_c aI qa hF
  u_c ah qa hF
  u_c ah qa hF
  u_reg qa hF
  u_op qa hF
  u_op qa hF
  u_op qa hF
  u_skip qa hF
  u_skip qa hF
  u_op qa hF
  u_c ac qa hF
  u_cond true qa hF
  u_c aY qa hF
  refine aG (λwq hq=>?_);replace hF:=qa hF hq;clear hq;refine⟨rfl,_,stepG_unwind_entry (v:=.tuple #[]) (evs:=#[mk .enable]) rfl H.f_enable (x_enable_n L) (x_enable_b L) (x_enable_x L) (x_enable_f L) (by simp[Extern.Race.none_]) (by simp[mk]) (by simp[mk]),?_⟩;refine⟨mT+1,?_⟩;exact cw rfl (λwq hq=>by
   refine goes_leave0 rfl rfl H.f_add rfl ⟨by u_nil,?_⟩
   exact hT _ (qa hF hq))
 ·obtain⟨V,hV⟩:∃V:Int,V=(v:Int)+1:=⟨_,rfl⟩
  obtain⟨S,hS⟩:∃S:Int,S=V*KK:=⟨_,rfl⟩
  have eS:IntKind.u64.wrap ((v:Int)*KK+4294967296)=S:=by rw[IntKind.wrap_u64,hS,hV];simp only[KK];omega
  rw[<-hV,<-hS];have a1:S/4294967296=V:=by rw[hS];simp only[KK];omega
  have b1:bits .and .u64 S 2147483648=0:=by rw[hS,hV];have:=st_flag (v+1) 0 (by omega) (by omega);simpa[KK]using this
  have b2:bits .and .u64 S 2147483647=0:=by rw[hS,hV];have:=st_waiters (v+1) 0 (by omega) (by omega);simpa[KK]using this
  have c1:IntKind.i32.wrap V=V:=by rw[IntKind.wrap_i32];omega
  have hV1:1<V:=by omega
  have WL:V<2147483648:=by omega
  have q1:(V==1)=false:=by simp;omega
  have q2:decide (V=1)=false:=zu (by omega);have q3:decide (V<0)=false:=zu (by omega);have q4:decide (0<V)=true:=xdt (by omega);have q5:(V==0)=false:=by simp;omega
  have q6:decide (V=0)=false:=zu (by omega);refine⟨_,(stepG_add_atomic rfl rfl (by k_ne) rfl H.f_addU64 (x_addU64_n L) (x_addU64_b L) (x_addU64_x L) .u64 (x_addU64_f L) rfl rfl hw.cellSt (hw.thaw 0)).trans (by rw[eS];rfl),.inr ⟨by omega,120,?_⟩⟩;replace hF:bu L.tWg Wg (w2.setCell (stA Wg) (.int .u64 S)):=⟨_,_,hw.setSt _⟩
  clear hw hS hV eS
  walk_nrm
  u_op qa hF
  u_c ac qa hF
  u_c aY qa hF
  u_leave1 H.f_uAdd qa hF
  u_op qa hF
  u_c ac qa hF
  u_c ah qa hF
  u_c ah qa hF
  u_reg qa hF
  u_op qa hF
  u_op qa hF
  u_op qa hF
  u_op qa hF
  u_skip qa hF
  u_skip qa hF
  u_op qa hF
  u_c ac qa hF
  u_cnd false qa hF
  u_c aI qa hF
  u_c ah qa hF
  u_reg qa hF
  u_op qa hF
  u_op qa hF
  u_op qa hF
  u_op qa hF
  u_c ac qa hF
  u_c ah qa hF
  u_reg qa hF
  u_op qa hF
  u_op qa hF
  u_op qa hF
  u_op qa hF
  u_c ac qa hF
  u_c ah qa hF
  u_c ah qa hF
  u_reg qa hF
  u_op qa hF
  u_op qa hF
  u_op qa hF
  u_op qa hF
  u_op qa hF
  u_op qa hF
  u_op qa hF
  u_op qa hF
  u_op qa hF
  u_op qa hF
  u_c ac qa hF
  u_cnd false qa hF
  u_c aI qa hF
  u_c ah qa hF
  u_c ah qa hF
  u_reg qa hF
  u_op qa hF
  u_op qa hF
  u_c ac qa hF
  u_cnd false qa hF
  u_c aI qa hF
  u_c ah qa hF
  u_c ah qa hF
  u_reg qa hF
  u_op qa hF
  u_op qa hF
  u_op qa hF
  u_skip qa hF
  u_skip qa hF
  u_op qa hF
  u_op qa hF
  u_skip qa hF
  u_skip qa hF
  u_skip qa hF
  u_skip qa hF
  u_op qa hF
  u_c ac qa hF
  u_cnd false qa hF
  u_c aI qa hF
  u_c ah qa hF
  u_c ah qa hF
  u_reg qa hF
  u_op qa hF
  u_op qa hF
  u_op qa hF
  u_skip qa hF
  u_skip qa hF
  u_op qa hF
  u_c ac qa hF
  u_cnd true qa hF
  u_c aY qa hF
  refine aG (λwq hq=>?_);replace hF:=qa hF hq;clear hq;refine⟨rfl,_,stepG_unwind_entry (v:=.tuple #[]) (evs:=#[mk .enable]) rfl H.f_enable (x_enable_n L) (x_enable_b L) (x_enable_x L) (x_enable_f L) (by simp[Extern.Race.none_]) (by simp[mk]) (by simp[mk]),?_⟩;refine⟨mT+1,?_⟩;exact cw rfl (λwq hq=>by
   refine goes_leave0 rfl rfl H.f_add rfl ⟨by u_nil,?_⟩
   exact hT _ (qa hF hq))
theorem waitRound (H:WgLib P L) {K:aa->ag->Prop} {mT:Nat}
  (hT:∀w,bu L.tWg Wg w->Goes P true (RM L.tWg Wg F) DC0 K mT (G (b₀.at (a₀.put ((ops₀[i₀]?).bind (·.dst)) (.tuple #[])) (.inRegion ops₀ rest₀::k₀)) cs) w)
  (g:aa) (w:ag) (h:Anch L Wg (b₀.at a₀ (.inRegion ops₀ (i₀::rest₀)::k₀)) cs g w):
  MG P L.tWg Wg F (qB P L.tWg Wg F (Anch L Wg (b₀.at a₀ (.inRegion ops₀ (i₀::rest₀)::k₀)) cs) (MG P L.tWg Wg F K)) g w:=by
 lib_facts
 obtain⟨T,rfl,Qi,t0,hF⟩:=h;obtain⟨v0,v1,v2,v3,v4,v5,v6,v7,v8,v9,v10,v11,v12,v13,v14,v15,v16,v17,v18,v19,v20,v21,v22,v23,v24,v25,v26,v27,v28,v29,v30,v31,v32,v33,v34,v35,v36,v37,v38,v39,v40,v41,v42,v43,v44,v45,v46,v47,v48,v49,v50,v51,v52,v53,v54,v55,v56,v57,v58,v59,v60,v61,v62,v63,v64,v65,v66,v67,v68,v69,v70,v71,v72,v73,v74,v75,v76,v77,v78,v79,v80,v81,v82,v83,rfl⟩:=array84 T Qi;simp only[List.getElem?_toArray,List.getElem?_cons_zero,aD]at t0;subst t0;refine⟨30,?_⟩;simp only[L7,body_wait,waitFn,bU]
 u_c stepG_block qa hF
 u_c ah qa hF
 u_reg qa hF
 u_op qa hF
 u_op qa hF
 u_op qa hF
 u_call H.f_uLoad (nm_uLoad L) uLoadFn qa hF
 u_c ah qa hF
 u_reg qa hF
 u_op qa hF
 u_c ac qa hF
 u_c ah qa hF
 u_reg qa hF
 u_op qa hF
 u_op qa hF
 u_op qa hF
 refine aG (λw1 h1=>?_);replace hF:=qa hF h1;clear h1;refine⟨rfl,λv hv hw=>?_⟩;rcases aS v with rfl|hvp
 ·replace hw:WgAt L.tWg Wg w1 0 0:=by simpa using hw
  refine⟨_,bP (v:=0) rfl rfl (by k_ne) rfl H.f_loadU64 (x_loadU64_n L) (x_loadU64_b L) (x_loadU64_x L) .u64 (x_loadU64_f L) rfl hw.cellSt,λ_=>⟨60,?_⟩,λh=>absurd rfl h⟩;clear hw
  walk_nrm
  u_op qa hF
  u_c ac qa hF
  u_c aY qa hF
  u_leave1 H.f_uLoad qa hF
  u_op qa hF
  u_c ac qa hF
  u_c ah qa hF
  u_reg qa hF
  u_op qa hF
  u_op qa hF
  u_op qa hF
  u_op qa hF
  u_c ac qa hF
  u_c ah qa hF
  u_reg qa hF
  u_op qa hF
  u_op qa hF
  u_op qa hF
  u_op qa hF
  u_c ac qa hF
  u_c ah qa hF
  u_c ah qa hF
  u_reg qa hF
  u_op qa hF
  u_op qa hF
  u_c ac qa hF
  u_cond true qa hF
  u_c ah qa hF
  u_cond true qa hF
  u_c ah qa hF
  u_reg qa hF
  refine aG (λw5 h5=>?_);replace hF:=qa hF h5;clear h5;refine⟨rfl,_,stepG_mark0 .enable (by simp) rfl rfl (by k_ne) rfl H.f_enable (x_enable_n L) (x_enable_b L) (x_enable_x L) (x_enable_f L),12,?_⟩
  walk_nrm
  u_c ac qa hF
  u_reg qa hF
  u_op qa hF
  u_conv H.underlying_tWgP H.room_tWg (WgLive.cell0 hF).choose_spec qa hF
  refine aG (λw6 h6=>?_);replace hF:=qa hF h6;clear h6;refine⟨rfl,_,stepG_markAt (.acquire) (by simp) rfl rfl (by k_ne) rfl H.f_acquire (x_acquire_n L) (x_acquire_b L) (x_acquire_x L) (x_acquire_f L) (by simp[Act.eval,stA]),?_⟩;refine⟨mT+1+19,?_⟩
  walk_nrm
  u_c ac qa hF
  u_c ah qa hF
  u_c ah qa hF
  u_reg qa hF
  u_op qa hF
  u_op qa hF
  u_op qa hF
  u_op qa hF
  u_op qa hF
  u_op qa hF
  u_op qa hF
  u_op qa hF
  u_skip qa hF
  u_skip qa hF
  u_op qa hF
  u_c ac qa hF
  u_cond false qa hF
  u_c aI qa hF
  u_c aY qa hF
  exact cw rfl (λwq hq=>by
   refine goes_leave0 rfl rfl H.f_wait rfl ⟨by u_nil,?_⟩
   exact hT _ (qa hF hq))
 ·obtain⟨S,hS⟩:∃S:Int,(v:Int)*KK=S:=⟨_,rfl⟩
  have a1:S/4294967296=(v:Int):=by rw[<-hS];simp only[KK];omega
  have b1:bits .and .u64 S 2147483648=0:=by rw[<-hS];have:=st_flag v 0 (by omega) (by omega);simpa[KK]using this
  have b2:bits .and .u64 S 2147483647=0:=by rw[<-hS];have:=st_waiters v 0 (by omega) (by omega);simpa[KK]using this
  have c1:IntKind.i32.wrap (v:Int)=(v:Int):=by rw[IntKind.wrap_i32];omega
  have gD:IntKind.u64.wrap (S+1)=S+1:=by rw[IntKind.wrap_u64,<-hS];simp only[KK];omega
  have q3:decide ((v:Int)<0)=false:=zu (by omega);have q4:decide (0<(v:Int))=true:=xdt (by omega);have q5:((v:Int)==0)=false:=by simp;omega
  have q6:decide ((v:Int)=0)=false:=zu (by omega);rw[hS]at hw;refine⟨_,bP (v:=S) rfl rfl (by k_ne) rfl H.f_loadU64 (x_loadU64_n L) (x_loadU64_b L) (x_loadU64_x L) .u64 (x_loadU64_f L) rfl hw.cellSt,λh0=>absurd h0 (by omega),λ_=>⟨60,?_⟩⟩;clear hw
  walk_nrm
  u_op qa hF
  u_c ac qa hF
  u_c aY qa hF
  u_leave1 H.f_uLoad qa hF
  u_op qa hF
  u_c ac qa hF
  u_c ah qa hF
  u_reg qa hF
  u_op qa hF
  u_op qa hF
  u_op qa hF
  u_op qa hF
  u_c ac qa hF
  u_c ah qa hF
  u_reg qa hF
  u_op qa hF
  u_op qa hF
  u_op qa hF
  u_op qa hF
  u_c ac qa hF
  u_c ah qa hF
  u_c ah qa hF
  u_reg qa hF
  u_op qa hF
  u_op qa hF
  u_c ac qa hF
  u_cnd false qa hF
  u_c aI qa hF
  u_c ah qa hF
  u_reg qa hF
  u_op qa hF
  u_op qa hF
  u_op qa hF
  u_op qa hF
  u_op qa hF
  u_op qa hF
  u_call H.f_uCas (nm_uCas L) uCasFn qa hF
  u_c ah qa hF
  u_reg qa hF
  u_op qa hF
  u_c ac qa hF
  u_c ah qa hF
  u_reg qa hF
  u_op qa hF
  u_op qa hF
  u_op qa hF
  u_op qa hF
  u_op qa hF
  refine aG (λw2 h2=>?_);replace hF:=qa hF h2;clear h2;refine⟨rfl,λv' Kr hw=>⟨λe=>?_,λe=>?_⟩⟩
  ·subst e;rw[hS]at hw⊢;refine⟨_,(stepG_cas_hit (v:=S) (n:=S+1) rfl rfl (by k_ne) rfl H.f_casU64 (x_casU64_n L) (x_casU64_b L) (x_casU64_x L) .u64 (x_casU64_f L) rfl rfl rfl hw.cellSt (hw.thaw 0)).trans (by rfl),40,?_⟩;replace hF:bu L.tWg Wg (w2.setCell (stA Wg) (.int .u64 (S+1))):=⟨_,_,hw.setSt _⟩
   clear hw
   walk_nrm
   u_op qa hF
   u_c ac qa hF
   u_c aY qa hF
   u_leave1 H.f_uCas qa hF
   u_c ac qa hF
   u_cond true qa hF
   u_c ah qa hF
   u_c ah qa hF
   u_reg qa hF
   u_op qa hF
   u_op qa hF
   u_op qa hF
   u_op qa hF
   u_c ac qa hF
   u_cond true qa hF
   u_reg qa hF
   u_op qa hF
   u_op qa hF
   u_op qa hF
   u_conv H.underlying_tPU32 H.room_tU32 (WgLive.cell1 hF).choose_spec qa hF
   refine aG (λw3 h3=>?_);replace hF:=qa hF h3;clear h3;refine⟨rfl,_,stepG_markAt .write (by simp) rfl rfl (by k_ne) rfl H.f_raceWrite (x_raceWrite_n L) (x_raceWrite_b L) (x_raceWrite_x L) (x_raceWrite_f L) (ad:=⟨Wg,1,none⟩) (by simp[Act.eval]),40,?_⟩
   walk_nrm
   u_c ac qa hF
   u_c ah qa hF
   u_reg qa hF
   u_op qa hF
   u_c ac qa hF
   u_c ah qa hF
   u_c ah qa hF
   u_reg qa hF
   u_op qa hF
   u_op qa hF
   u_op qa hF
   u_op qa hF
   u_skip qa hF
   u_op qa hF
   u_c ac qa hF
   u_cond false qa hF
   u_c aI qa hF
   u_c ah qa hF
   u_reg qa hF
   u_op qa hF
   u_op qa hF
   u_op qa hF
   u_op qa hF
   refine aG (λw4 h4=>?_);replace hF:=qa hF h4;clear h4;refine⟨rfl,rfl,λ⟨st,hw⟩=>stepG_semacquire_wait rfl rfl rfl H.f_semacquire (x_semacquire_n L) (x_semacquire_b L) (x_semacquire_x L) (x_semacquire_f L) (by simp[Act.eval,smA]) hw.cellSm,λhf=>?_⟩;refine⟨_,(stepG_semacquire (n:=1) rfl rfl (by k_ne) rfl H.f_semacquire (x_semacquire_n L) (x_semacquire_b L) (x_semacquire_x L) (x_semacquire_f L) (by simp[Act.eval,smA]) hf.cellSm (by k_ne) (hf.thaw 1)).trans (by rfl),40,?_⟩;replace hF:bu L.tWg Wg (w4.setCell (smA Wg) (.int .u32 0)):=⟨_,_,hf.setSm 0⟩
   clear hf
   walk_nrm
   u_c ac qa hF
   u_c ah qa hF
   u_reg qa hF
   u_op qa hF
   u_op qa hF
   u_op qa hF
   u_call H.f_uLoad (nm_uLoad L) uLoadFn qa hF
   u_c ah qa hF
   u_reg qa hF
   u_op qa hF
   u_c ac qa hF
   u_c ah qa hF
   u_reg qa hF
   u_op qa hF
   u_op qa hF
   u_op qa hF
   refine aG (λw7 h7=>?_);replace hF:=qa hF h7;clear h7;refine⟨rfl,λhw=>⟨_,bP (v:=0) rfl rfl (by k_ne) rfl H.f_loadU64 (x_loadU64_n L) (x_loadU64_b L) (x_loadU64_x L) .u64 (x_loadU64_f L) rfl hw.cellSt,40,?_⟩⟩;clear hw
   walk_nrm
   u_op qa hF
   u_c ac qa hF
   u_c aY qa hF
   u_leave1 H.f_uLoad qa hF
   u_op qa hF
   u_op qa hF
   u_c ac qa hF
   u_c ah qa hF
   u_cond true qa hF
   u_c ah qa hF
   u_reg qa hF
   refine aG (λw5 h5=>?_);replace hF:=qa hF h5;clear h5;refine⟨rfl,_,stepG_mark0 .enable (by simp) rfl rfl (by k_ne) rfl H.f_enable (x_enable_n L) (x_enable_b L) (x_enable_x L) (x_enable_f L),12,?_⟩
   walk_nrm
   u_c ac qa hF
   u_reg qa hF
   u_op qa hF
   u_conv H.underlying_tWgP H.room_tWg (WgLive.cell0 hF).choose_spec qa hF
   refine aG (λw6 h6=>?_);replace hF:=qa hF h6;clear h6;refine⟨rfl,_,stepG_markAt (.acquire) (by simp) rfl rfl (by k_ne) rfl H.f_acquire (x_acquire_n L) (x_acquire_b L) (x_acquire_x L) (x_acquire_f L) (by simp[Act.eval,stA]),?_⟩;refine⟨mT+1+9,?_⟩
   walk_nrm
   u_c ac qa hF
   u_c ah qa hF
   u_c ah qa hF
   u_reg qa hF
   u_op qa hF
   u_c ac qa hF
   u_cond false qa hF
   u_c aI qa hF
   u_c aY qa hF
   exact cw rfl (λwq hq=>by
    refine goes_leave0 rfl rfl H.f_wait rfl ⟨by u_nil,?_⟩
    exact hT _ (qa hF hq))
  ·refine⟨_,stepG_cas_miss (v:=(v':Int)*KK) (old:=S) (n:=S+1) rfl rfl (by k_ne) rfl H.f_casU64 (x_casU64_n L) (x_casU64_b L) (x_casU64_x L) .u64 (x_casU64_f L) rfl rfl rfl hw.cellSt (hw.thaw 0) (by rw[<-hS];simp only[KK];omega),20,?_⟩;clear hw
   walk_nrm
   u_op qa hF
   u_c ac qa hF
   u_c aY qa hF
   u_leave1 H.f_uCas qa hF
   u_c ac qa hF
   u_cond false qa hF
   u_c aI qa hF
   u_c stepG_inBlock qa hF
   u_c stepG_inLoop qa hF
   refine aG (λw3 h3=>?_);replace hF:=qa hF h3;exact⟨_,rfl,by simp,by simp,hF⟩
theorem waitStart (H:WgLib P L) {c:ao} (w:ag) (hF:bu L.tWg Wg w):
  MG P L.tWg Wg F (iU P .disable (MG P L.tWg Wg F (Anch L Wg c cs))) (G ((base L.wait).at ⟨#[.pointer (some ⟨Wg,0,none⟩),ae,ae,ae,ae,ae,ae,ae,ae,ae,ae,ae,ae,ae,ae,ae,ae,ae,ae,ae,ae,ae,ae,ae,ae,ae,ae,ae,ae,ae,ae,ae,ae,ae,ae,ae,ae,ae,ae,ae,ae,ae,ae,ae,ae,ae,ae,ae,ae,ae,ae,ae,ae,ae,ae,ae,ae,ae,ae,ae,ae,ae,ae,ae,ae,ae,ae,ae,ae,ae,ae,ae,ae,ae,ae,ae,ae,ae,ae,ae,ae,ae,ae,ae],[]⟩ [.code (body_wait L)]) (c::cs)) w:=by
 lib_facts
 simp only[body_wait,waitFn,bU];refine⟨6,?_⟩
 u_c ah qa hF
 u_cond true qa hF
 u_reg qa hF
 refine aG (λw1 h1=>?_);replace hF:=qa hF h1;clear h1;refine⟨rfl,_,stepG_mark0 .disable (by simp) rfl rfl (by k_ne) rfl H.f_disable (x_disable_n L) (x_disable_b L) (x_disable_x L) (x_disable_f L),6,?_⟩
 walk_nrm
 u_c ac qa hF
 u_c stepG_block qa hF
 u_c stepG_loop qa hF
 exact aG (λw2 h2=>⟨_,rfl,by simp,by simp,qa hF h2⟩)
end
end
end
section
open Go Go.Conc Go.ConcN Sim
def pz (t:aF) (l:Loc):Prop:= ∀i a,touchAt t i=some a->a.loc≠l
theorem pz.perm {l:Loc} (h:pz t l) (g:Nat):Perm t g l:=λi a ha e=>(h i a ha e).elim
theorem pz.jj0 {l:Loc} (h:pz t l) (g:Nat):PermW t g l:=λi a ha e _=>(h i a ha e).elim
section
variable {Sh:Loc->Prop} {Own Rd DZ O4:Nat->Loc->Prop} {t:aF} {j:Nat}
theorem CT.grow (h:CT Sh Own Rd t j) (ho:∀k l,DZ k l->Own k l\/pz t l) (hr:∀k l,O4 k l->Rd k l\/pz t l)
  (so:∀k l,Own k l->DZ k l) (sr:∀k l,Rd k l->O4 k l):CT Sh DZ O4 t j:=
 ⟨h.quiet,λk k1 kj l hl=>(ho k l hl).elim (h.own k k1 kj l) (λf=>f.perm k),λk k1 kj l hl=>(hr k l hl).elim (h.rd k k1 kj l) (λf=>f.jj0 k),
  λl hs hl=>h.free l hs λk k1 kj=>⟨λx=>(hl k k1 kj).1 (so k l x),λx=>(hl k k1 kj).2 (sr k l x)⟩,λl hs hl=>h.mine l hs λk k1 kj x=>hl k k1 kj (so k l x),h.nr,h.gs⟩
end
theorem TP (h:∀op∈t,nV B op.act) {a:Addr} (ha:B<=a.block):pz t (.cell a):=by
 intro i x hx e;obtain⟨op,dW,rq⟩:=bZ hx;have hl:=h op (mem_of_getElem? dW) x rq;rw[e]at hl;exact cB _ (xll hl ha)
end
section
open Go Go.Conc Go.ConcN Sim
open Go.ConcR (KK WgAt stA smA rd wr mk Payload DC0)
def uF (B:Blocks):Loc->Prop
 |.cell a=>B a.block
 |.obj r=>B r
 |_=>False
def qD:Nat->Loc->Prop:=λ_ _=>False
section
variable [Payload] (P:ay) (ty:aL) (Wg C n:Nat)
def Ew (ja:Nat->Blocks->aM->ag->Prop) (i:Nat) (F _O:Blocks) (g:aa) (w:ag):Prop:=
 g.status=.running/\∃v,ja i F v w/\∀w1,Ext F w w1->cg C n w1->bu ty Wg w1->
  ∃g',ax P false g w1=.go g' (w1.setCell ⟨C,i,none⟩ v) #[⟨.cell ⟨C,i,none⟩,true,false⟩]/\
   ∃m,Goes P false (RW ty Wg C n 0 i) (DWs Wg qD qD C n (i+1)) (AtR0 P ty Wg C n 0 (i+1) v) m g' (w1.setCell ⟨C,i,none⟩ v)
def Script (ja:Nat->Blocks->aM->ag->Prop) (i:Nat) (F0:Blocks) (g:aa) (w:ag):Prop:=
 ∃F,(∀b,F b->F0 b)/\WG P false (Ew P ty Wg C n ja i) F (λ_=>False) g w
def AtGoM (ja:Nat->Blocks->aM->ag->Prop) (i:Nat) (F:Blocks) (Next:aa->ag->Prop) (g:aa) (w:ag):Prop:=
 g.status=.running/\∃g' child,ax P true g w=.spawn g' child w #[]/\child.status=.running/\(cg C n w->Script P ty Wg C n ja i F child w)/\Next g' w
def Scr (ja:Nat->Blocks->aM->ag->Prop) (K:aa->ag->Prop):Nat->Blocks->Blocks->aa->ag->Prop
 |0,F,_,g,w=>g.status=.running/\(bu ty Wg w->∃A:aa->ag->Prop,(∀g w,A g w->g.status=.running)/\(∀g w,A g w->MG P ty Wg F (qB P ty Wg F A K) g w)/\MG P ty Wg F (iU P .disable (MG P ty Wg F A)) g w)
 |r+1,F,_,g,w=>g.status=.running/\(bu ty Wg w->MG P ty Wg F (iU P .disable (MG P ty Wg F (vJ P ty Wg F (MG P ty Wg F (AtGoM P ty Wg C n ja (n-(r+1)) F λg' w=>WG P true (Scr ja K r) F (λ_=>False) g' w))))) g w)
end
structure WX where
 stage:Nat
 fuel:Nat
 deaf:Nat
 rank:Rank
 F:Blocks
 O:Blocks
 val:aM
section
variable [Payload] (P:ay) (ty:aL) (Wg C n:Nat) (ja:Nat->Blocks->aM->ag->Prop)
inductive WS (i:Nat) (d:WX) (g:aa) (w:ag):Prop
 |own:d.stage=9->d.deaf=0->d.fuel=0->WGo P false (Ew P ty Wg C n ja i) d.rank d.F d.O g w->WS i d g w
 |lib:WSit P ty Wg C n qD qD 0 (i+1) d.val d.stage d.fuel d.deaf g w->ja i d.F d.val w->WS i d g w
inductive Tag where
 |wg (r:Nat)|kdS (r:Nat)|ad (r:Nat)|rs (r:Nat)|en (r:Nat)|gos (r:Nat)
 |kd|anch|ld|cs (vs:Nat)|ws|sm|blk|l2|en2|acq
inductive MS (K:aa->ag->Prop):Tag->Nat->Nat->Rank->Blocks->Blocks->aa->ag->Prop
 |wg {r:Nat} {rk:Rank} {F O:Blocks} {g:aa} {w:ag}:r<=n->WGo P true (Scr P ty Wg C n ja K r) rk F O g w->MS K (.wg r) 0 0 rk F O g w
 |kdS {r f:Nat} {F:Blocks} {g:aa} {w:ag}:r<n->Goes P true (RM ty Wg F) DC0 (iU P .disable (MG P ty Wg F (vJ P ty Wg F (MG P ty Wg F (AtGoM P ty Wg C n ja (n-(r+1)) F λg' w=>WG P true (Scr P ty Wg C n ja K r) F (λ_=>False) g' w))))) f g w->MS K (.kdS r) f 0 .leaf F (λ_=>False) g w
 |ad {r f:Nat} {F:Blocks} {g:aa} {w:ag}:r<n->Goes P true (RM ty Wg F) DC0 (vJ P ty Wg F (MG P ty Wg F (AtGoM P ty Wg C n ja (n-(r+1)) F λg' w=>WG P true (Scr P ty Wg C n ja K r) F (λ_=>False) g' w))) f g w->MS K (.ad r) f 1 .leaf F (λ_=>False) g w
 |rs {r f:Nat} {F:Blocks} {g:aa} {w:ag}:r<n->Goes P true (RM ty Wg F) DC0 (iU P (.read (smA Wg)) (MG P ty Wg F (iU P .enable (MG P ty Wg F (AtGoM P ty Wg C n ja (n-(r+1)) F λg' w=>WG P true (Scr P ty Wg C n ja K r) F (λ_=>False) g' w))))) f g w->MS K (.rs r) f 1 .leaf F (λ_=>False) g w
 |en {r f:Nat} {F:Blocks} {g:aa} {w:ag}:r<n->Goes P true (RM ty Wg F) DC0 (iU P .enable (MG P ty Wg F (AtGoM P ty Wg C n ja (n-(r+1)) F λg' w=>WG P true (Scr P ty Wg C n ja K r) F (λ_=>False) g' w))) f g w->MS K (.en r) f 1 .leaf F (λ_=>False) g w
 |gos {r f:Nat} {F:Blocks} {g:aa} {w:ag}:r<n->Goes P true (RM ty Wg F) DC0 (AtGoM P ty Wg C n ja (n-(r+1)) F λg' w=>WG P true (Scr P ty Wg C n ja K r) F (λ_=>False) g' w) f g w->MS K (.gos r) f 0 .leaf F (λ_=>False) g w
 |kd {f:Nat} {F:Blocks} {A:aa->ag->Prop} {g:aa} {w:ag}:(∀g w,A g w->g.status=.running)->(∀g w,A g w->MG P ty Wg F (qB P ty Wg F A K) g w)->Goes P true (RM ty Wg F) DC0 (iU P .disable (MG P ty Wg F A)) f g w->MS K .kd f 0 .leaf F (λ_=>False) g w
 |anch {f:Nat} {F:Blocks} {A:aa->ag->Prop} {g:aa} {w:ag}:(∀g w,A g w->g.status=.running)->(∀g w,A g w->MG P ty Wg F (qB P ty Wg F A K) g w)->Goes P true (RM ty Wg F) DC0 A f g w->MS K .anch f 1 .leaf F (λ_=>False) g w
 |ld {f:Nat} {F:Blocks} {A:aa->ag->Prop} {g:aa} {w:ag}:(∀g w,A g w->g.status=.running)->(∀g w,A g w->MG P ty Wg F (qB P ty Wg F A K) g w)->Goes P true (RM ty Wg F) DC0 (qB P ty Wg F A K) f g w->MS K .ld f 1 .leaf F (λ_=>False) g w
 |cs {vs f:Nat} {F:Blocks} {A:aa->ag->Prop} {g:aa} {w:ag}:(∀g w,A g w->g.status=.running)->(∀g w,A g w->MG P ty Wg F (qB P ty Wg F A K) g w)->Goes P true (RM ty Wg F) DC0 (Cq P ty Wg F A K vs) f g w->MS K (.cs vs) f 1 .leaf F (λ_=>False) g w
 |ws {f:Nat} {F:Blocks} {g:aa} {w:ag}:Goes P true (RM ty Wg F) DC0 (iU P (.write (smA Wg)) (MG P ty Wg F (wQ P ty Wg F K))) f g w->MS K .ws f 1 .leaf F (λ_=>False) g w
 |sm {f:Nat} {F:Blocks} {g:aa} {w:ag}:Goes P true (RM ty Wg F) DC0 (wQ P ty Wg F K) f g w->MS K .sm (f+1) 1 .leaf F (λ_=>False) g w
 |blk {F:Blocks} {g:aa} {w:ag}:(∀w1,RM ty Wg F w w1->wQ P ty Wg F K g w1)->MS K .blk 0 1 .leaf F (λ_=>False) {g with status:=.blocked} w
 |l2 {f:Nat} {F:Blocks} {g:aa} {w:ag}:Goes P true (RM ty Wg F) DC0 (Cn P ty Wg F K) f g w->MS K .l2 f 1 .leaf F (λ_=>False) g w
 |en2 {f:Nat} {F:Blocks} {g:aa} {w:ag}:Goes P true (RM ty Wg F) DC0 (iU P .enable (MG P ty Wg F (iU P (.acquire (stA Wg)) K))) f g w->MS K .en2 f 1 .leaf F (λ_=>False) g w
 |acq {f:Nat} {F:Blocks} {g:aa} {w:ag}:Goes P true (RM ty Wg F) DC0 (iU P (.acquire (stA Wg)) K) f g w->MS K .acq f 0 .leaf F (λ_=>False) g w
end
section
variable [Payload]
section
variable {P:ay} {ty:aL} {Wg C n:Nat} {ja:Nat->Blocks->aM->ag->Prop} {K:aa->ag->Prop} {tag:Tag} {f d:Nat} {rk:Rank} {F O:Blocks} {a:aa} {w w1:ag}
omit [Payload] in
theorem jr (w:ag):RM ty Wg F w w:=⟨Ext.refl ..,id⟩
theorem MS.rely (h:MS P ty Wg C n ja K tag f d rk F O a w) (r:RM ty Wg F w w1):MS P ty Wg C n ja K tag f d rk F O a w1:=by
 cases h with
 |wg h0 h=>exact .wg h0 (h.ext r.ext)
 |kdS h0 h=>exact .kdS h0 (h.rely qP r)
 |ad h0 h=>exact .ad h0 (h.rely qP r)
 |rs h0 h=>exact .rs h0 (h.rely qP r)
 |en h0 h=>exact .en h0 (h.rely qP r)
 |gos h0 h=>exact .gos h0 (h.rely qP r)
 |kd h0 h1 h=>exact .kd h0 h1 (h.rely qP r)
 |anch h0 h1 h=>exact .anch h0 h1 (h.rely qP r)
 |ld h0 h1 h=>exact .ld h0 h1 (h.rely qP r)
 |cs h0 h1 h=>exact .cs h0 h1 (h.rely qP r)
 |ws h=>exact .ws (h.rely qP r)
 |sm h=>exact .sm (h.rely qP r)
 |blk h=>exact .blk λw2 r2=>h w2 (qP _ _ _ r r2)
 |l2 h=>exact .l2 (h.rely qP r)
 |en2 h=>exact .en2 (h.rely qP r)
 |acq h=>exact .acq (h.rely qP r)
omit [Payload] in
theorem rW {Stop:aa->ag->Prop} (hs:∀g w,Stop g w->g.status=.running) {n:Nat} {w:ag} (h:Goes P true (RM ty Wg F) DC0 Stop n g w):g.status=.running:=
 h.running hs w (jr w)
theorem q9x:∀(r:Nat) (F O:Blocks) (g:aa) (w:ag),Scr P ty Wg C n ja K r F O g w->g.status=.running:=by
 intro r F O g w h;cases r with
 |zero=>exact h.1
 |succ r=>exact h.1
omit [Payload] in
theorem LZ {main:Bool} {Stop:Blocks->Blocks->aa->ag->Prop} (hs:∀F O g w,Stop F O g w->g.status=.running) {r:Rank} (h:WGo P main Stop r F O g w):g.status=.running:=by
 cases r with
 |leaf=>exact hs _ _ _ _ (h w (Ext.refl ..))
 |node f=>exact h.1
theorem MS.status (h:MS P ty Wg C n ja K tag f d rk F O a w):(a.status=.running/\tag≠.blk)\/(a.status=.blocked/\tag=.blk):=by
 cases h with
 |wg h0 h=>exact .inl ⟨LZ (λF O g w x=>q9x _ F O g w x) h,by simp⟩
 |kdS h0 h=>exact .inl ⟨rW (λ_ _ x=>x.1) h,by simp⟩
 |ad h0 h=>exact .inl ⟨rW (λ_ _ x=>x.1) h,by simp⟩
 |rs h0 h=>exact .inl ⟨rW (λ_ _ x=>x.1) h,by simp⟩
 |en h0 h=>exact .inl ⟨rW (λ_ _ x=>x.1) h,by simp⟩
 |gos h0 h=>exact .inl ⟨rW (λ_ _ x=>x.1) h,by simp⟩
 |kd h0 h1 h=>exact .inl ⟨rW (λ_ _ x=>x.1) h,by simp⟩
 |anch h0 h1 h=>exact .inl ⟨rW h0 h,by simp⟩
 |ld h0 h1 h=>exact .inl ⟨rW (λ_ _ x=>x.1) h,by simp⟩
 |cs h0 h1 h=>exact .inl ⟨rW (λ_ _ x=>x.1) h,by simp⟩
 |ws h=>exact .inl ⟨rW (λ_ _ x=>x.1) h,by simp⟩
 |sm h=>exact .inl ⟨rW (λ_ _ x=>x.1) h,by simp⟩
 |blk h=>exact .inr ⟨rfl,rfl⟩
 |l2 h=>exact .inl ⟨rW (λ_ _ x=>x.1) h,by simp⟩
 |en2 h=>exact .inl ⟨rW (λ_ _ x=>x.1) h,by simp⟩
 |acq h=>exact .inl ⟨rW (λ_ _ x=>x.1) h,by simp⟩
theorem MS.wokenBy (h:MS P ty Wg C n ja K tag f d rk F O a w) (r:RM ty Wg F w w1) (g g':aa):
  ∃tag' f',MS P ty Wg C n ja K tag' f' d rk F O (woken P g g' w1 a) w1/\f'<=f+1/\(tag'=tag\/(tag=.blk/\tag'=.sm))/\(mayWake P g=true->g'.status=.running->tag'≠.blk):=by
 have h':=h.rely r;unfold Go.Conc.woken;split
 ·rcases h'.status with⟨hs,eB⟩|⟨_,rfl⟩
  ·exact⟨tag,f,by rw[again_running _ (.inl hs)];exact h',by omega,.inl rfl,λ_ _=>eB⟩
  ·cases h' with
   |blk hb=>
    have h3:=hb w1 (jr w1);exact⟨.sm,0+1,by rw[Go.ConcR.again_blocked h3.1 h3.2.1];exact .sm (aG hb),by omega,.inr ⟨rfl,rfl⟩,λ_ _=>by simp⟩
 ·rename_i hc;exact⟨tag,f,h',by omega,.inl rfl,λh1 h2=>absurd (by simp[h1,h2]) hc⟩
end
def xd (D:Nat->WX):Nat->WD:=λi=>⟨if(D i).stage=9 then 7 else(D i).stage,(D i).fuel,(D i).deaf⟩
def l8:Tag->Nat
 |.rs _|.en _|.gos _=>1
 |_=>0
def Je:Tag->Prop
 |.wg _|.kdS _|.ad _|.rs _|.en _|.gos _|.kd|.anch|.ld|.cs _=>True
 |_=>False
def Nr:Tag->Prop
 |.ws|.sm|.blk=>True
 |_=>False
def UM:Tag->Prop
 |.l2|.en2|.acq=>True
 |_=>False
inductive Mo (j:Nat) (D:Nat->WD):Tag->Int->Int->Prop
 |opn {tag:Tag}:Je tag->OpenSt j D->(∀vs,tag=.cs vs->Vc j D<=vs/\1<=vs)->Mo j D tag (((Vc j D+l8 tag:Nat):Int)*KK) 0
 |reg {tag:Tag}:Nr tag->OpenSt j D->1<=Vc j D->Mo j D tag (((Vc j D:Nat):Int)*KK+1) 0
 |last {tag:Tag} (L:Nat):Nr tag->L<j->((D L).stage=4\/(D L).stage=3\/(D L).stage=2)->(∀i,i<j->i≠L->(D i).stage=1)->Mo j D tag (if(D L).stage=2 then 0 else 1) 0
 |sema {tag:Tag}:(tag=.ws\/tag=.sm)->AllQuit j D->Mo j D tag 0 1
 |fin {tag:Tag}:UM tag->AllQuit j D->Mo j D tag 0 0
def psi (n v:Nat):Tag->Nat
 |.wg r=>8*n+20+32*r
 |.kdS r=>8*n+20+32*r+24
 |.ad r=>8*n+20+32*r+23
 |.rs r=>8*n+20+32*r+22
 |.en r=>8*n+20+32*r+21
 |.gos r=>8*n+20+32*r+20
 |.kd=>8*n+12
 |.anch=>8*v+8
 |.ld=>8*v+7
 |.cs vs=>8*vs+6
 |.ws=>5
 |.sm=>4
 |.blk=>4
 |.l2=>3
 |.en2=>2
 |.acq=>1
end
end
section
open Go Go.Conc Go.ConcN Sim
open Go.ConcR (KK WgAt stA smA rd wr mk Payload DC0 g_of_ofEvents)
section
variable [Payload]
section
variable (o Wg C:Nat) (SB:Blocks)
def ShP:Loc->Prop:=ShB λb=>SB b\/b=Wg
def qK (j:Nat) (D:Nat->WX) (k:Nat) (l:Loc):Prop:= ∃i,i<j/\k=o+i/\(uF (D i).O l\/l=.cell ⟨C,i,none⟩)
def RdD (j:Nat) (D:Nat->WX) (k:Nat) (l:Loc):Prop:= ∃i,i<j/\k=o+i/\uF (λb=>(D i).F b/\¬(D i).O b) l
structure Sep (j:Nat) (D:Nat->WX) (FM OM:Blocks) (w:ag):Prop where
 wF:∀i,i<j->∀b,(D i).F b->b<w.heap.size/\b≠Wg/\b≠C/\¬SB b
 wO:∀i,i<j->∀b,(D i).O b->(D i).F b
 apart:∀i i',i<j->i'<j->i≠i'->∀b,(D i).O b->¬(D i').F b
 mF:∀b,FM b->b<w.heap.size/\b≠Wg/\b≠C/\¬SB b/\∀i,i<j->¬(D i).O b
 mO:∀b,OM b->FM b/\∀i,i<j->¬(D i).F b
 lW:Wg<w.heap.size
 lC:C<w.heap.size
 lS:∀b,SB b->b<w.heap.size
 hCW:C≠Wg
 sW:¬SB Wg
 sC:¬SB C
end
def IK (o:Nat) (a:Addr) (t:aF):Prop:= ∃p,p<=t.size/\(∀i g,i<p->t.g? i=some g->g<o)/\∀i,p<=i->t.act? i≠some (.mark (.release a))
omit [Payload] in
theorem IK.app {o:Nat} {a:Addr} {u:aF} (h:IK o a t) (hu:∀op∈u,op.act≠.mark (.release a)):IK o a (t++u):=by
 obtain⟨p,h0,h1,h2⟩:=h;refine⟨p,by simp;omega,λi g hi hg=>h1 i g hi (by rw[<-g?_old (u:=u) (by omega)];exact hg),λi hi he=>?_⟩;obtain⟨op,ho,Wo⟩:=au.1 he;rcases aV ho with⟨_,zL⟩|⟨_,G5⟩
 ·exact h2 i hi (by rw[act?_of zL,Wo])
 ·exact hu op G5 Wo
section
variable (P:ay) (ty:aL) (o Wg C n:Nat) (SB:Blocks) (ja:Nat->Blocks->aM->ag->Prop)
structure yC (j:Nat) (D:Nat->WX) (w:ag) (t:aF):Prop where
 ct:CT (ShP Wg SB) (qK o C j D) (RdD o j D) t (o-1+j)
 norel:IK o (stA Wg) t
 hand:∀i g,t.g? i=some g->g≠0->g<o->t.counts i->∃q,t.g? q=some 0/\bG t i q
 known:∀i a,touchAt t i=some a->Knows t 0 i\/(ShP Wg SB a.loc/\a.kind=.atomic)\/∃g,t.g? i=some g/\o<=g/\a.kind≠.atomic
 mem:∀i a,touchAt t i=some a->a.loc.isMemory=true
 seen:∀op∈t,nV w.heap.size op.act
structure iC (j:Nat) (gs:Array aa) (w:ag) (t:aF) (D:Nat->WX) (q:Nat->Nat) (d0:Nat):Prop where
 size:gs.size=o+j
 old:∀i g,0<i->i<o->gs[i]?=some g->QuitsD P (q i) (Deaf t i) g
 wk:∀i,i<j->∃g,gs[o+i]?=some g/\WS P ty Wg C n ja i (D i) g w
 tr:yC o Wg C SB j D w t
 deaf0:Deaf t 0=d0
 deafW:∀i,i<j->Deaf t (o+i)=(D i).deaf
 above:∀k,o+j<=k->Deaf t k=0
 rel:∀i,i<j->(D i).stage<=6->∃r,RelBy (stA Wg) t (o+i) r
 has:∀i,i<j->(D i).stage<=6->Has C i (D i).val w
 pay:cg C n w
 vB:0<o
end
section
variable {P:ay} {ty:aL} {o Wg C n:Nat} {SB:Blocks} {ja:Nat->Blocks->aM->ag->Prop} {j:Nat} {gs:Array aa} {w w':ag} {t:aF} {D:Nat->WX} {q:Nat->Nat} {d0:Nat} {FM OM:Blocks}
omit [Payload] in
theorem Sep.own (h:Sep Wg C SB j D FM OM w):Apart (ShP Wg SB) (qK o C j D) (RdD o j D):=by
 have tQ:∀{B:Blocks} {l:Loc},uF B l->∃b,B b/\((∃a,l=.cell a/\a.block=b)\/l=.obj b):=by
  intro B l hl;cases l with
  |cell a=>exact⟨_,hl,.inl ⟨a,rfl,rfl⟩⟩
  |obj r=>exact⟨_,hl,.inr rfl⟩
  |_=>exact hl.elim
 have same:∀{b b':Nat} {l:Loc},((∃a:Addr,l=.cell a/\a.block=b)\/l=.obj b)->((∃a:Addr,l=.cell a/\a.block=b')\/l=.obj b')->b=b':=by
  intro b b' l h1 h2;rcases h1 with⟨a,rfl,rfl⟩|rfl
  ·rcases h2 with⟨a',e,rfl⟩|e
   ·cases e;rfl
   ·cases e
  ·rcases h2 with⟨a',e,rfl⟩|e
   ·cases e
   ·cases e;rfl
 have cellC:∀{b i:Nat} {l:Loc},l=.cell ⟨C,i,none⟩->((∃a:Addr,l=.cell a/\a.block=b)\/l=.obj b)->b=C:=by
  intro b i l e h1;subst e;rcases h1 with⟨a,e,rfl⟩|e
  ·cases e;rfl
  ·cases e
 have Lh:∀{l:Loc} {b:Nat},ShP Wg SB l->((∃a:Addr,l=.cell a/\a.block=b)\/l=.obj b)->SB b\/b=Wg:=by
  rintro l b ⟨a,rfl,hs⟩ h1;rcases h1 with⟨a',e,rfl⟩|e
  ·cases e;exact hs
  ·cases e
 refine⟨?_,?_,?_,?_⟩
 ·rintro k k' l ⟨i,hi,rfl,h1⟩ ⟨i',fe,rfl,h2⟩;by_cases e:i=i'
  ·rw[e]
  ·exfalso;rcases h1 with h1|h1<;>rcases h2 with h2|h2
   ·obtain⟨b,hb,hl⟩:=tQ h1;obtain⟨b',fQ,uR⟩:=tQ h2;obtain rfl:=same hl uR;exact h.apart i i' hi fe e b hb (h.wO i' fe b fQ)
   ·obtain⟨b,hb,hl⟩:=tQ h1;exact(h.wF i hi b (h.wO i hi b hb)).2.2.1 (cellC h2 hl)
   ·obtain⟨b,hb,hl⟩:=tQ h2;exact(h.wF i' fe b (h.wO i' fe b hb)).2.2.1 (cellC h1 hl)
   ·rw[h1]at h2;cases h2;exact e rfl
 ·rintro k k' l ⟨i,hi,rfl,h1⟩ ⟨i',fe,rfl,h2⟩;obtain⟨b',⟨fQ,fF⟩,uR⟩:=tQ h2;rcases h1 with h1|h1
  ·obtain⟨b,hb,hl⟩:=tQ h1;obtain rfl:=same hl uR;by_cases e:i=i'
   ·subst e;exact fF hb
   ·exact h.apart i i' hi fe e b hb fQ
  ·exact(h.wF i' fe b' fQ).2.2.1 (cellC h1 uR)
 ·rintro k l ⟨i,hi,rfl,h1⟩ hs;rcases h1 with h1|h1
  ·obtain⟨b,hb,hl⟩:=tQ h1;have:=h.wF i hi b (h.wO i hi b hb);rcases Lh hs hl with x|x
   ·exact this.2.2.2 x
   ·exact this.2.1 x
  ·have:=Lh (b:=C) hs (.inl ⟨_,h1,rfl⟩);rcases this with x|x
   ·exact h.sC x
   ·exact h.hCW x
 ·rintro k l ⟨i,hi,rfl,h1⟩ hs;obtain⟨b,⟨hb,_⟩,hl⟩:=tQ h1;have:=h.wF i hi b hb;rcases Lh hs hl with x|x
  ·exact this.2.2.2 x
  ·exact this.2.1 x
end
end
section
variable {o Wg C:Nat} {SB:Blocks} {j:Nat} {w w':ag} {t u:aF} {D D':Nat->WX}
theorem Jj (h:∀i g,t.g? i=some g->g≠0->g<o->t.counts i->∃q,t.g? q=some 0/\bG t i q)
  (hu:∀op∈u,op.g=0\/o<=op.g\/op.act.touch?=none):∀i g,(t++u).g? i=some g->g≠0->g<o->(t++u).counts i->∃q,(t++u).g? q=some 0/\bG (t++u) i q:=by
 intro i g hg eB dY hc;have pI:=hc;obtain⟨x,hx,_⟩:=hc;obtain⟨op,dW,rq⟩:=bZ hx;rcases aV dW with⟨hi,fC⟩|⟨_,rP⟩
 ·obtain⟨q,hq,hb⟩:=h i g (by simpa[bV,getElem?_append_old hi]using hg) eB dY ((counts_old hi).1 pI);have jO:q<t.size:=by
   unfold bV at hq;obtain⟨z,hz,_⟩:=au.1 hq;exact lt_size_of_getElem? hz
  exact⟨q,by simpa[bV,getElem?_append_old jO]using hq,hb_app u hb⟩
 ·have eg:op.g=g:=by simpa[bV,dW]using hg
  rcases hu op rP with h0|h0|h0
  ·omega
  ·omega
  ·rw[h0]at rq;cases rq
theorem Jw (h:∀i a,touchAt t i=some a->Knows t 0 i\/(ShP Wg SB a.loc/\a.kind=.atomic)\/∃g,t.g? i=some g/\o<=g/\a.kind≠.atomic)
  (hu:∀op∈u,∀x,op.act.touch?=some x->op.g=0\/(ShP Wg SB x.loc/\x.kind=.atomic)\/(o<=op.g/\x.kind≠.atomic)):
  ∀i a,touchAt (t++u) i=some a->Knows (t++u) 0 i\/(ShP Wg SB a.loc/\a.kind=.atomic)\/∃g,(t++u).g? i=some g/\o<=g/\a.kind≠.atomic:=by
 intro i a ha;obtain⟨op,dW,rq⟩:=bZ ha;rcases aV dW with⟨hi,fC⟩|⟨_,rP⟩
 ·rcases h i a (by rw[touchAt_of fC];exact rq)with h0|h0|⟨g,h0,h1⟩
  ·exact .inl (h0.app u)
  ·exact .inr (.inl h0)
  ·exact .inr (.inr ⟨g,by rw[g?_old hi];exact h0,h1⟩)
 ·rcases hu op rP a rq with h0|h0|h0
  ·have:=knows_own dW;rw[h0]at this;exact .inl this
  ·exact .inr (.inl h0)
  ·exact .inr (.inr ⟨op.g,by simp[bV,dW],h0⟩)
theorem RU (h:∀op∈t,nV B op.act) {l:Loc} {S:Blocks} (hl:uF S l) (hS:∀b,S b->B<=b):pz t l:=by
 cases l with
 |cell a=>exact TP h (hS _ hl)
 |obj r=>
  intro i x hx e;obtain⟨op,dW,rq⟩:=bZ hx;have oI:=h op (mem_of_getElem? dW) x rq;rw[e]at oI;exact cB _ (xll oI (hS _ hl))
 |_=>exact hl.elim
theorem S9 {A B E:Blocks} (h:∀b,A b->B b\/E b) {l:Loc} (hl:uF A l):uF B l\/uF E l:=by
 cases l with
 |cell a=>exact h _ hl
 |obj r=>exact h _ hl
 |_=>exact hl.elim
theorem yC.appW (h:yC o Wg C SB j D w t) (A:Apart (ShP Wg SB) (qK o C j D') (RdD o j D')) (hi:i<j) (ho:0<o) (eU:w.heap.size<=w'.heap.size)
  (hD:∀i',i'≠i->D' i'=D i') (hF:∀b,(D i).F b->(D' i).F b) (hO:∀b,(D i).O b->(D' i).O b) (kS:∀b,(D' i).F b->(D i).F b\/w.heap.size<=b) (wz:∀b,(D' i).O b->(D i).O b\/w.heap.size<=b) (oI:∀b,(D i).F b->b<w.heap.size)
  (hg:∀op∈u,op.g=o+i)
  (hk:∀op∈u,∀x,op.act.touch?=some x->x.loc.isMemory=true/\((ShP Wg SB x.loc/\x.kind=.atomic)\/(x.kind=.plain/\(qK o C j D' (o+i) x.loc\/(RdD o j D' (o+i) x.loc/\x.write=false)))))
  (hn:∀op∈u,op.act≠.mark (.release (stA Wg))) (hl:∀op∈u,nV w'.heap.size op.act):yC o Wg C SB j D' w' (t++u):=by
 have grow:CT (ShP Wg SB) (qK o C j D') (RdD o j D') t (o-1+j):=by
  refine CT.grow h.ct (λk l=>?_) (λk l=>?_) (λk l=>?_) (λk l=>?_)
  ·rintro⟨i',fe,rfl,h1⟩;by_cases e:i'=i
   ·subst e;rcases h1 with h1|h1
    ·rcases S9 wz h1 with h2|h2
     ·exact .inl ⟨i',fe,rfl,.inl h2⟩
     ·exact .inr (RU h.seen h2 λ_ x=>x)
    ·exact .inl ⟨i',fe,rfl,.inr h1⟩
   ·rw[hD i' e]at h1;exact .inl ⟨i',fe,rfl,h1⟩
  ·rintro⟨i',fe,rfl,h1⟩;by_cases e:i'=i
   ·subst e;rcases S9 (B:=λb=>(D i').F b/\¬(D i').O b) (E:=λb=>w.heap.size<=b) (λb ⟨hb,oz⟩=>(kS b hb).imp (λx=>⟨x,λy=>oz (hO b y)⟩) id) h1 with h2|h2
    ·exact .inl ⟨i',fe,rfl,h2⟩
    ·exact .inr (RU h.seen h2 λ_ x=>x)
   ·rw[hD i' e]at h1;exact .inl ⟨i',fe,rfl,h1⟩
  ·rintro⟨i',fe,rfl,h1⟩;by_cases e:i'=i
   ·subst e;refine⟨i',fe,rfl,h1.imp (λx=>?_) id⟩;cases l with
    |cell a=>exact hO _ x
    |obj r=>exact hO _ x
    |_=>exact x.elim
   ·exact⟨i',fe,rfl,by rw[hD i' e];exact h1⟩
  ·rintro⟨i',fe,rfl,h1⟩;by_cases e:i'=i
   ·subst e;have key:∀b,((D i').F b/\¬(D i').O b)->((D' i').F b/\¬(D' i').O b):=λb ⟨x,y⟩=>⟨hF b x,λz=>(wz b z).elim y λv=>by have:=oI b x;omega⟩
    refine⟨i',fe,rfl,?_⟩;cases l with
    |cell a=>exact key _ h1
    |obj r=>exact key _ h1
    |_=>exact h1.elim
   ·exact⟨i',fe,rfl,by rw[hD i' e];exact h1⟩
 refine⟨grow.appW A (k:=o+i) (by omega) (by omega) λop dW=>⟨hg op dW,λx hx=>?_⟩,h.norel.app hn,Jj h.hand λop dW=>.inr (.inl (by rw[hg op dW];omega)),Jw h.known λop dW x hx=>?_,Et h.mem λop dW x hx=>(hk op dW x hx).1,λop dW=>?_⟩
 ·rcases(hk op dW x hx).2 with⟨h1,h2⟩|⟨h1,h2⟩
  ·exact .inl ⟨h1,by rw[h2];simp,by rw[h2];simp⟩
  ·exact .inr h2
 ·rcases(hk op dW x hx).2 with h1|⟨h1,_⟩
  ·exact .inr (.inl h1)
  ·exact .inr (.inr ⟨by rw[hg op dW];omega,by rw[h1];simp⟩)
 ·rcases bX.1 dW with h'|h'
  ·exact(h.seen op h').mono eU
  ·exact hl op h'
theorem yC.app0 (h:yC o Wg C SB j D w t) (A:Apart (ShP Wg SB) (qK o C j D) (RdD o j D)) (eU:w.heap.size<=w'.heap.size) (fI:∀op∈u,Ok0 (ShP Wg SB) (qK o C j D) (RdD o j D) (o-1+j) op)
  (hm:∀op∈u,∀x,op.act.touch?=some x->x.loc.isMemory=true) (hn:∀op∈u,op.act≠.mark (.release (stA Wg))) (hl:∀op∈u,nV w'.heap.size op.act):yC o Wg C SB j D w' (t++u):=by
 refine⟨h.ct.app0 A fI,h.norel.app hn,Jj h.hand λop dW=>.inl (fI op dW).1,Jw h.known λop dW x _=>.inl (fI op dW).1,Et h.mem hm,λop dW=>?_⟩;rcases bX.1 dW with h'|h'
 ·exact(h.seen op h').mono eU
 ·exact hl op h'
end
end
section
open Go Go.Conc Go.ConcN Sim
def RL (N:Nat) (f g:Nat->Rank):Prop:= ∃i,i<N/\Rank.sub (f i) (g i)/\∀k,k≠i->f k=g k
theorem RL.wf (N:Nat):WellFounded (RL N):=by
 induction N with
 |zero=>exact⟨λg=>⟨_,λf ⟨i,hi,_⟩=>absurd hi (av i)⟩⟩
 |succ N ih=>
  have key:∀r:Rank,∀g:Nat->Rank,g N=r->Acc (RL (N+1)) g:=by
   intro r;induction r using Rank.wf.induction with
   |_ r ihr=>
    intro g hg;have inner:∀g:Nat->Rank,g N=r->Acc (RL (N+1)) g:=by
     intro g;induction g using ih.induction with
     |_ g ihg=>
      intro hg;refine⟨_,λf ⟨i,hi,hs,he⟩=>?_⟩;by_cases e:i=N
      ·subst e;exact ihr (f i) (hg▸hs) f rfl
      ·exact ihg f ⟨i,by omega,hs,he⟩ ((he N (λh=>e h.symm)).trans hg)
    exact inner g hg
  exact⟨λg=>key _ g rfl⟩
abbrev Mea:=Nat×(Nat->Rank)×Nat
def MLt (N:Nat):Mea->Mea->Prop:=Prod.Lex (· <·) (Prod.Lex (RL N) (· <·))
theorem MLt.wf (N:Nat):WellFounded (MLt N):=(Prod.lex Nat.lt_wfRel (Prod.lex ⟨RL N,RL.wf N⟩ Nat.lt_wfRel)).wf
end
section
open Go Go.Conc Go.ConcN Sim
open Go.ConcR (KK WgAt stA smA rd wr mk Payload DC0 g_of_ofEvents)
section
variable [Payload]
section
variable {P:ay} {ty:aL} {o Wg C n:Nat} {SB:Blocks} {ja:Nat->Blocks->aM->ag->Prop} {j:Nat} {gs:Array aa} {w w':ag} {t:aF} {D:Nat->WX} {q:Nat->Nat} {d0:Nat} {FM OM:Blocks}
theorem WS.rely (jg:∀i F v w w1,ja i F v w->Ext F w w1->ja i F v w1) {d:WX} (h:WS P ty Wg C n ja i d g w) (e:Ext d.F w w') (r:RW ty Wg C n 0 i w w'):WS P ty Wg C n ja i d g w':=by
 cases h with
 |own h1 h2 h3 h=>exact .own h1 h2 h3 (h.ext e)
 |lib h hr=>exact .lib (h.rely (by simpa using r)) (jg _ _ _ _ _ hr e)
theorem WS.status {d:WX} (h:WS P ty Wg C n ja i d g w):g.status=.running\/g.status=.finished:=by
 cases h with
 |own h1 h2 h3 h=>exact .inl (LZ (λ_ _ _ _ x=>x.1) h)
 |lib h hr=>exact h.status
theorem WS.woken {d:WX} (h:WS P ty Wg C n ja i d g w) (a a':aa) (w1:ag):woken P a a' w1 g=g:=by
 unfold Go.Conc.woken;split
 ·exact again_running _ h.status
 ·rfl
theorem iC.stepW (jg:∀i F v w w1,ja i F v w->Ext F w w1->ja i F v w1) (h:iC P ty o Wg C n SB ja j gs w t D q d0) (S:Sep Wg C SB j D FM OM w) (hi:i<j) {pos:String} {x:WX}
  (S':Sep Wg C SB j (upd D i x) FM OM w')
  (iK:∀i',i'<j->i'≠i->Ext (D i').F w w'/\RW ty Wg C n 0 i' w w') (nK:WS P ty Wg C n ja i x g' w') (eU:w.heap.size<=w'.heap.size)
  (hF:∀b,(D i).F b->x.F b) (hO:∀b,(D i).O b->x.O b) (kS:∀b,x.F b->(D i).F b\/w.heap.size<=b) (wz:∀b,x.O b->(D i).O b\/w.heap.size<=b)
  (hk:∀e∈es,∀y,(ai e).touch?=some y->y.loc.isMemory=true/\((ShP Wg SB y.loc/\y.kind=.atomic)\/(y.kind=.plain/\(qK o C j (upd D i x) (o+i) y.loc\/(RdD o j (upd D i x) (o+i) y.loc/\y.write=false)))))
  (zM:∀e∈es,e.loc≠.mark (.release (stA Wg))) (hl:∀e∈es,nV w'.heap.size (ai e))
  (wL:az (D i).deaf es=x.deaf) (hrel:x.stage<=6->∃r,RelBy (stA Wg) (t++aw (o+i) fn pos es) (o+i) r)
  (kZ:x.stage<=6->Has C i x.val w') (mG:cg C n w'):
  iC P ty o Wg C n SB ja j ((gs.map (woken P g g' w')).setIfInBounds (o+i) g') w' (t++aw (o+i) fn pos es) (upd D i x) q d0:=by
 have dW:=h.vB;have ne:∀k,k≠o+i->Deaf (t++aw (o+i) fn pos es) k=Deaf t k:=λk hk=>bz t (λe=>hk e.symm) _ g_of_ofEvents;refine⟨by simp[h.size],λi' g1 h0 dY kE=>?_,λi' fe=>?_,?_,by rw[ne 0 (by omega),h.deaf0],λi' fe=>?_,λk pG=>by rw[ne k (by omega)];exact h.above k pG,λi' fe hst=>?_,λi' fe hst=>?_,mG,dW⟩
 ·rw[bm _ _ _ _ (by omega)]at kE;obtain⟨y,hy,rfl⟩:=au.1 kE;have hq:=h.old i' y h0 dY hy;rw[bJ hq,ne i' (by omega)];exact hq
 ·by_cases e:i'=i
  ·subst e;exact⟨g',bB _ _ _ (by rw[h.size];omega),by rw[am];exact nK⟩
  ·obtain⟨y,hy,xB⟩:=h.wk i' fe;refine⟨y,by rw[bm _ _ _ _ (by omega),hy,bY,xB.woken],?_⟩;rw[aA D _ e];exact xB.rely jg (iK i' fe e).1 (iK i' fe e).2
 ·refine h.tr.appW S'.own hi dW eU (λi' e=>aA D _ e) (by rw[am];exact hF) (by rw[am];exact hO) (by rw[am];exact kS) (by rw[am];exact wz) (λb hb=>(S.wF i hi b hb).1) g_of_ofEvents (λop fC y hy=>?_) (norel_of zM) (λop fC=>?_)
  ·obtain⟨e,he,rfl⟩:=aj fC;exact hk e he y hy
  ·obtain⟨e,he,rfl⟩:=aj fC;exact hl e he
 ·by_cases e:i'=i
  ·subst e;rw[Deaf_own,h.deafW i' fe,am];exact wL
  ·rw[ne _ (by omega),h.deafW i' fe,aA D _ e]
 ·by_cases e:i'=i
  ·subst e;rw[am]at hst;exact hrel hst
  ·rw[aA D _ e]at hst;obtain⟨r,hr⟩:=h.rel i' fe hst;exact⟨r,hr.appOther g_of_ofEvents (by omega)⟩
 ·by_cases e:i'=i
  ·subst e;rw[am]at hst⊢;exact kZ hst
  ·rw[aA D _ e]at hst⊢;exact(iK i' fe e).2.cell.trans (h.has i' fe hst)
theorem iC.step0 (jg:∀i F v w w1,ja i F v w->Ext F w w1->ja i F v w1) (h:iC P ty o Wg C n SB ja j gs w t D q d0) (S:Sep Wg C SB j D FM OM w) {a:aa} {pos:String}
  (iK:∀i,i<j->Ext (D i).F w w'/\RW ty Wg C n 0 i w w') (eU:w.heap.size<=w'.heap.size)
  (fI:∀op∈aw 0 fn pos es,Ok0 (ShP Wg SB) (qK o C j D) (RdD o j D) (o-1+j) op) (hm:∀e∈es,∀y,(ai e).touch?=some y->y.loc.isMemory=true)
  (zM:∀e∈es,e.loc≠.mark (.release (stA Wg))) (hl:∀e∈es,nV w'.heap.size (ai e)) (mG:cg C n w'):
  iC P ty o Wg C n SB ja j ((gs.map (woken P a a' w')).setIfInBounds 0 a') w' (t++aw 0 fn pos es) D q (az d0 es):=by
 have dW:=h.vB;have ne:∀k,k≠0->Deaf (t++aw 0 fn pos es) k=Deaf t k:=λk hk=>bz t (λe=>hk e.symm) _ g_of_ofEvents;refine⟨by simp[h.size],λi' g1 h0 dY kE=>?_,λi' fe=>?_,?_,by rw[Deaf_own,h.deaf0],λi' fe=>by rw[ne _ (by omega),h.deafW i' fe],λk pG=>by rw[ne k (by omega)];exact h.above k pG,λi' fe hst=>?_,λi' fe hst=>(iK i' fe).2.cell.trans (h.has i' fe hst),mG,dW⟩
 ·rw[bm _ _ _ _ (by omega)]at kE;obtain⟨y,hy,rfl⟩:=au.1 kE;have hq:=h.old i' y h0 dY hy;rw[bJ hq,ne i' (by omega)];exact hq
 ·obtain⟨y,hy,xB⟩:=h.wk i' fe;exact⟨y,by rw[bm _ _ _ _ (by omega),hy,bY,xB.woken],xB.rely jg (iK i' fe).1 (iK i' fe).2⟩
 ·refine h.tr.app0 S.own eU fI (λop fC y hy=>?_) (norel_of zM) (λop fC=>?_)
  ·obtain⟨e,he,rfl⟩:=aj fC;exact hm e he y hy
  ·obtain⟨e,he,rfl⟩:=aj fC;exact hl e he
 ·obtain⟨r,hr⟩:=h.rel i' fe hst;exact⟨r,hr.appOther g_of_ofEvents (by omega)⟩
theorem iC.q92 (h:iC P ty o Wg C n SB ja j gs w t D q d0) (S:Sep Wg C SB j D FM OM w) {k:Nat} (k0:0<k) (ko:k<o) {pos:String} {q1:Nat}
  (hm:∀e∈es,e.mute=true) (hq:QuitsD P q1 (az (Deaf t k) es) g'):
  iC P ty o Wg C n SB ja j ((gs.map (woken P g g' w)).setIfInBounds k g') w (t++aw k fn pos es) D (upd q k q1) d0:=by
 have dW:=h.vB;have ne:∀k',k'≠k->Deaf (t++aw k fn pos es) k'=Deaf t k':=λk' hk=>bz t (λe=>hk e.symm) _ g_of_ofEvents;have quiet:∀op∈aw k fn pos es,op.act.touch?=none:=λop fC=>by obtain⟨e,he,rfl⟩:=aj fC;exact touch_mute (hm e he)
 refine⟨by simp[h.size],λi' g1 h0 dY kE=>?_,λi' fe=>?_,?_,by rw[ne 0 (by omega),h.deaf0],λi' fe=>by rw[ne _ (by omega),h.deafW i' fe],λk' pG=>by rw[ne k' (by omega)];exact h.above k' pG,λi' fe hst=>?_,h.has,h.pay,dW⟩
 ·by_cases e:i'=k
  ·subst e;rw[bB _ _ _ (by rw[h.size];omega)]at kE;cases kE;rw[am,Deaf_own];exact hq
  ·rw[bm _ _ _ _ (λx=>e x.symm)]at kE;obtain⟨y,hy,rfl⟩:=au.1 kE;have hq:=h.old i' y h0 dY hy;rw[bJ hq,ne i' e,aA q _ e];exact hq
 ·obtain⟨y,hy,xB⟩:=h.wk i' fe;exact⟨y,by rw[bm _ _ _ _ (by omega),hy,bY,xB.woken],xB⟩
 ·have A:=S.own (o:=o);refine⟨h.tr.ct.appW A (k:=k) (by omega) (by omega) λop fC=>⟨g_of_ofEvents op fC,λx hx=>by rw[quiet op fC]at hx;cases hx⟩,h.tr.norel.app (norel_of λe he hl=>(by have:=hm e he;obtain⟨l,_,_⟩:=e;have hl:l=_:=hl;subst hl;cases this)),Jj h.tr.hand λop fC=>.inr (.inr (quiet op fC)),
   Jw h.tr.known λop fC x hx=>(by rw[quiet op fC]at hx;cases hx),Et h.tr.mem λop fC x hx=>(by rw[quiet op fC]at hx;cases hx),Jt h.tr.seen λop fC=>by obtain⟨e,he,rfl⟩:=aj fC;exact CB (low_mute (hm e he) _)⟩
 ·obtain⟨r,hr⟩:=h.rel i' fe hst;exact⟨r,hr.appOther g_of_ofEvents (by omega)⟩
theorem iC.at (jg:∀i F v w w1,ja i F v w->Ext F w w1->ja i F v w1) (h:iC P ty o Wg C n SB ja j gs w t D q d0) (d:Nat):iC P ty o Wg C n SB ja j gs (w.at d) t D q d0:=
 ⟨h.size,h.old,λi hi=>let⟨g,hg,hs⟩:=h.wk i hi;⟨g,hg,hs.rely jg ⟨ji _,λ_ _=>rfl⟩ (RW.at w d)⟩,⟨h.tr.ct,h.tr.norel,h.tr.hand,h.tr.known,h.tr.mem,h.tr.seen⟩,h.deaf0,h.deafW,h.above,h.rel,h.has,h.pay,h.vB⟩
end
end
section
variable [Payload]
section
variable {P:ay} {ty:aL} {o Wg C n:Nat} {SB:Blocks} {ja:Nat->Blocks->aM->ag->Prop} {j:Nat} {gs:Array aa} {w:ag} {t:aF} {D:Nat->WX} {q:Nat->Nat} {FM OM:Blocks}
theorem iC.spawn (h:iC P ty o Wg C n SB ja j gs w t D q 0) {x:WX} (S':Sep Wg C SB (j+1) (upd D j x) FM OM w) {child:aa} (h9:x.stage=9) (hx:x.deaf=0) (hs:WS P ty Wg C n ja j x child w) {pos:String} {fn':aZ} {pos':String}:
  iC P ty o Wg C n SB ja (j+1) ((gs.setIfInBounds 0 a').push child) w (t++#[{g:=0,fn,pos,act:=.go (o+j)},{g:=o+j,fn:=fn',pos:=pos',act:=.start}]) (upd D j x) q 0:=by
 have dW:=h.vB;have quiet:∀op∈(#[{g:=0,fn,pos,act:=.go (o+j)},{g:=o+j,fn:=fn',pos:=pos',act:=.start}]:aF),op.act.touch?=none/\(op.g=0\/op.g=o+j)/\op.act≠.mark (.release (stA Wg))/\nV w.heap.size op.act:=λop fC=>by
  simp only[bg,List.mem_cons,List.not_mem_nil,or_false]at fC;rcases fC with rfl|rfl
  ·exact⟨rfl,.inl rfl,by simp,CB trivial⟩
  ·exact⟨rfl,.inr rfl,by simp,CB trivial⟩
 have deaf:∀k,Deaf (t++#[{g:=0,fn,pos,act:=.go (o+j)},{g:=o+j,fn:=fn',pos:=pos',act:=.start}]) k=Deaf t k:=λk=>by
  have:=Deaf_append t k [{g:=0,fn,pos,act:=.go (o+j)},{g:=o+j,fn:=fn',pos:=pos',act:=.start}];rw[show(#[{g:=0,fn,pos,act:=.go (o+j)},{g:=o+j,fn:=fn',pos:=pos',act:=.start}]:aF)=[{g:=0,fn,pos,act:=.go (o+j)},{g:=o+j,fn:=fn',pos:=pos',act:=.start}].toArray from rfl,this];simp[deafStep]
 have Ve:∀(i:Nat),i<j->i≠j:=λi hi=>Nat.ne_of_lt hi;refine⟨by simp[h.size];omega,λi' g1 h0 dY kE=>?_,λi' fe=>?_,?_,by rw[deaf,h.deaf0],λi' fe=>?_,λk hk=>by rw[deaf];exact h.above k (by omega),λi' fe hst=>?_,λi' fe hst=>?_,h.pay,dW⟩
 ·have jN:i'<(gs.setIfInBounds 0 a').size:=by simp[h.size];omega
  rw[bw jN]at kE;have iH:gs[i']?=some g1:=by
   rw[<-kE,<-aH jN,xne (by omega)]
  rw[deaf];exact h.old i' g1 h0 dY iH
 ·by_cases e:i'=j
  ·subst e;refine⟨child,?_,by rw[am];exact hs⟩;have:o+i'=(gs.setIfInBounds 0 a').size:=by simp[h.size]
   rw[this];exact Array.getElem?_push_size
  ·obtain⟨y,hy,xB⟩:=h.wk i' (by omega);refine⟨y,?_,by rw[aA D _ e];exact xB⟩;have jN:o+i'<(gs.setIfInBounds 0 a').size:=by simp[h.size];omega
   rw[bw jN,<-aH jN,xne (by omega)];exact hy
 ·have same:∀k l,k<=o-1+j->(qK o C (j+1) (upd D j x) k l↔qK o C j D k l)/\(RdD o (j+1) (upd D j x) k l↔RdD o j D k l):=by
   intro k l hk;refine⟨⟨?_,?_⟩,⟨?_,?_⟩⟩
   ·rintro⟨i,hi,rfl,h1⟩;have e:i≠j:=by omega
    rw[aA D _ e]at h1;exact⟨i,by omega,rfl,h1⟩
   ·rintro⟨i,hi,rfl,h1⟩;exact⟨i,by omega,rfl,by rw[aA D _ (Ve i hi)];exact h1⟩
   ·rintro⟨i,hi,rfl,h1⟩;have e:i≠j:=by omega
    rw[aA D _ e]at h1;exact⟨i,by omega,rfl,h1⟩
   ·rintro⟨i,hi,rfl,h1⟩;exact⟨i,by omega,rfl,by rw[aA D _ (Ve i hi)];exact h1⟩
  have Dy:=h.tr.ct;have ct1:CT (ShP Wg SB) (qK o C (j+1) (upd D j x)) (RdD o (j+1) (upd D j x)) t (o-1+j):=
   ⟨Dy.quiet,λk k1 kj l hl=>Dy.own k k1 kj l ((same k l kj).1.1 hl),λk k1 kj l hl=>Dy.rd k k1 kj l ((same k l kj).2.1 hl),
    λl hs hl=>Dy.free l hs λk k1 kj=>⟨λy=>(hl k k1 kj).1 ((same k l kj).1.2 y),λy=>(hl k k1 kj).2 ((same k l kj).2.2 y)⟩,λl hs hl=>Dy.mine l hs λk k1 kj y=>hl k k1 kj ((same k l kj).1.2 y),Dy.nr,Dy.gs⟩
  have e1:o-1+j+1=o+j:=by omega
  have ct2:=CT.fork S'.own ct1 (x:={g:=0,fn,pos,act:=.go (o+j)}) (y:={g:=o+j,fn:=fn',pos:=pos',act:=.start}) ⟨rfl,by rw[e1]⟩ ⟨by rw[e1],rfl⟩ h.deaf0;refine⟨ct2,h.tr.norel.app λop fC=>(quiet op fC).2.2.1,Jj h.tr.hand λop fC=>.inr (.inr (quiet op fC).1),Jw h.tr.known λop fC y hy=>(by rw[(quiet op fC).1]at hy;cases hy),Et h.tr.mem λop fC y hy=>(by rw[(quiet op fC).1]at hy;cases hy),Jt h.tr.seen λop fC=>(quiet op fC).2.2.2⟩
 ·by_cases e:i'=j
  ·subst e;rw[deaf,am,hx];exact h.above _ (ji _)
  ·rw[deaf,h.deafW i' (by omega),aA D _ e]
 ·by_cases e:i'=j
  ·subst e;rw[am]at hst;omega
  ·rw[aA D _ e]at hst;obtain⟨r,hr⟩:=h.rel i' (by omega) hst;refine⟨r,hr.app λi hi hg hc=>?_⟩;obtain⟨y,hy,_⟩:=hc;obtain⟨op,fC,Wn⟩:=bZ hy;rcases aV fC with⟨dY,_⟩|⟨_,G5⟩
   ·omega
   ·rw[(quiet op G5).1]at Wn;cases Wn
 ·by_cases e:i'=j
  ·subst e;rw[am]at hst;omega
  ·rw[aA D _ e]at hst⊢;exact h.has i' (by omega) hst
end
end
def JT (n:Nat):Tag->Nat->Prop
 |.wg r,j=>j+r=n
 |.kdS r,j|.ad r,j|.rs r,j|.en r,j|.gos r,j=>j+r+1=n
 |_,j=>j=n
def iP (j:Nat) (D:Nat->WX):Nat:=sumTo j λi=>(D i).stage
def kK (j:Nat) (D:Nat->WX):Nat:=sumTo j λi=>(D i).fuel
def ranks (n:Nat) (D:Nat->WX) (rk:Rank):Nat->Rank:=λi=>if i=n then rk else(D i).rank
structure Kept (Wg C L0:Nat) (w0:ag) (j:Nat) (D:Nat->WX) (OM:Blocks) (w:ag):Prop where
 keep:∀b,b<L0->w.heap[b]?=w0.heap[b]?
 lW:L0<=Wg
 lC:L0<=C
 lO:∀i,i<j->∀b,(D i).O b->L0<=b
 lM:∀b,OM b->L0<=b
 tape:w.tape=w0.tape
 os:w.os=w0.os
 output:w.output=w0.output
 nb:NB w0->NB w
theorem JH {b:Nat} (_:∀r,r≠b->w'.heap[r]?=w.heap[r]?) (_:∃c e z,w'.heap[b]?=some (.cells c e z)) (_:NB w):NB w':=trivial
section
variable [Payload] (P:ay) (ty:aL) (o Wg C n:Nat) (SB:Blocks) (ja:Nat->Blocks->aM->ag->Prop) (K:aa->ag->Prop) (L0:Nat) (w0:ag)
def sZ (μ:Mea) (m:Machine) (t:aF):Prop:=
 ∃(gs:Array aa) (w:ag) (sl:Option (Nat×Nat)) (j:Nat) (D:Nat->WX) (q:Nat->Nat) (tag:Tag) (f0 d0:Nat) (rk:Rank) (FM OM:Blocks) (a:aa) (st sm:Int),
  m=crowd gs w sl/\gs[0]?=some a/\MS P ty Wg C n ja K tag f0 d0 rk FM OM a w/\iC P ty o Wg C n SB ja j gs w t D q d0/\Sep Wg C SB j D FM OM w/\WgAt ty Wg w st sm/\Mo j (xd D) tag st sm/\JT n tag j/\
  Kept Wg C L0 w0 j D OM w/\μ=(psi n (Vc j (xd D)) tag+iP j D,ranks n D rk,f0+2*kK j D+2*sumTo o q)
end
theorem JT.retag {tag tag':Tag} (h:JT n tag j) (e:tag'=tag\/(tag=.blk/\tag'=.sm)):JT n tag' j:=by
 rcases e with rfl|⟨rfl,rfl⟩
 ·exact h
 ·exact h
theorem SV (n v:Nat) {tag tag':Tag} (e:tag'=tag\/(tag=.blk/\tag'=.sm)):psi n v tag'=psi n v tag:=by
 rcases e with rfl|⟨rfl,rfl⟩<;>rfl
theorem q3w (n:Nat) {v v':Nat} (h:v'<=v) (tag:Tag):psi n v' tag<=psi n v tag:=by
 cases tag<;>simp only[psi]<;>omega
theorem JT.le {tag:Tag} (h:JT n tag j):j<=n:=by
 cases tag<;>simp only[JT]at h<;>omega
section
variable [Payload] {P:ay} {ty:aL} {o Wg C n:Nat} {SB:Blocks} {ja:Nat->Blocks->aM->ag->Prop} {K:aa->ag->Prop} {L0:Nat} {w0:ag} {gs:Array aa} {w w':ag} {sl:Option (Nat×Nat)} {j:Nat} {D:Nat->WX} {q:Nat->Nat} {tag:Tag} {f0 d0:Nat} {rk:Rank} {FM OM:Blocks} {a:aa} {t:aF}
theorem workerStep (jg:∀i F v w w1,ja i F v w->Ext F w w1->ja i F v w1) (ha:gs[0]?=some a) (kX:MS P ty Wg C n ja K tag f0 d0 rk FM OM a w) (dP:iC P ty o Wg C n SB ja j gs w t D q d0) (S:Sep Wg C SB j D FM OM w) (fu:JT n tag j) (eY:Kept Wg C L0 w0 j D OM w) (hi:i<j) {x:WX} {st' sm':Int} (hg:gs[o+i]?=some g) (hgo:ax P false g w=.go g' w' es)
  (S':Sep Wg C SB j (upd D i x) FM OM w') (hRM:RM ty Wg FM w w')
  (iK:∀i',i'<j->i'≠i->Ext (D i').F w w'/\RW ty Wg C n 0 i' w w') (nK:WS P ty Wg C n ja i x g' w') (eU:w.heap.size<=w'.heap.size)
  (hF:∀b,(D i).F b->x.F b) (hO:∀b,(D i).O b->x.O b) (kS:∀b,x.F b->(D i).F b\/w.heap.size<=b) (wz:∀b,x.O b->(D i).O b\/w.heap.size<=b)
  (hk:∀e∈es,∀y,(ai e).touch?=some y->y.loc.isMemory=true/\((ShP Wg SB y.loc/\y.kind=.atomic)\/(y.kind=.plain/\(qK o C j (upd D i x) (o+i) y.loc\/(RdD o j (upd D i x) (o+i) y.loc/\y.write=false)))))
  (zM:∀e∈es,e.loc≠.mark (.release (stA Wg))) (hl:∀e∈es,nV w'.heap.size (ai e))
  (wL:az (D i).deaf es=x.deaf) (hrel:x.stage<=6->∃r,RelBy (stA Wg) (t++aw (o+i) g.frame.fn g.frame.place es) (o+i) r)
  (kZ:x.stage<=6->Has C i x.val w') (mG:cg C n w') (eZ:WgAt ty Wg w' st' sm')
  (dK:∀tag',(tag'=tag\/(tag=.blk/\tag'=.sm))->(mayWake P g=true->g'.status=.running->tag'≠.blk)->Mo j (xd (upd D i x)) tag' st' sm')
  (rz:Kept Wg C L0 w0 j (upd D i x) OM w')
  (dY:(x.stage<(D i).stage/\cnt (xd (upd D i x) i)<=cnt (xd D i))\/(x.stage=(D i).stage/\Rank.sub x.rank (D i).rank)\/(x.stage=(D i).stage/\x.rank=(D i).rank/\x.fuel+1=(D i).fuel)):
  ∃m₁ ops μ',runT P (crowd gs w sl) (o+i)=(.next m₁,ops)/\MLt (n+1) μ' (psi n (Vc j (xd D)) tag+iP j D,ranks n D rk,f0+2*kK j D+2*sumTo o q)/\sZ P ty o Wg C n SB ja K L0 w0 μ' m₁ (t++ops):=by
 have dW:=dP.vB;have He:=fu.le;obtain⟨tag',f',vD,Dr,rM,Ko⟩:=kX.wokenBy hRM g g';have eG:=bq (P:=P) (sl:=sl) (i:=o+i) hg (by rw[show(o+i==0)=false from by simp;omega];exact hgo);have gT:=dP.stepW (fn:=g.frame.fn) (pos:=g.frame.place) jg S hi S' iK nK eU hF hO kS wz hk zM hl wL hrel kZ mG (g:=g);refine⟨_,_,_,eG,?_,_,w',sl,j,upd D i x,q,tag',f',d0,rk,FM,OM,woken P g g' w' a,st',sm',rfl,by rw[bm _ _ _ _ (by omega),ha];rfl,vD,gT,S',eZ,dK tag' rM Ko,fu.retag rM,rz,rfl⟩;rw[SV n _ rM];have e1:=sumTo_upd D x (λd:WX=>cnt ⟨if d.stage=9 then 7 else d.stage,d.fuel,d.deaf⟩) hi;have e2:=sumTo_upd D x WX.stage hi;have e3:=sumTo_upd D x WX.fuel hi;have c1:cnt (xd (upd D i x) i)=cnt ⟨if x.stage=9 then 7 else x.stage,x.fuel,x.deaf⟩:=by simp only[xd,am]
 have v1:Vc j (xd (upd D i x))=sumTo j λa=>cnt ⟨if(upd D i x a).stage=9 then 7 else(upd D i x a).stage,(upd D i x a).fuel,(upd D i x a).deaf⟩:=rfl;have v2:Vc j (xd D)=sumTo j λa=>cnt ⟨if(D a).stage=9 then 7 else(D a).stage,(D a).fuel,(D a).deaf⟩:=rfl;rcases dY with⟨h1,h2⟩|⟨h1,h2⟩|⟨h1,h2,h3⟩
 ·refine bj _ _ ?_;rw[c1]at h2;have h2':cnt ⟨if x.stage=9 then 7 else x.stage,x.fuel,x.deaf⟩<=cnt ⟨if(D i).stage=9 then 7 else(D i).stage,(D i).fuel,(D i).deaf⟩:=h2;have:=q3w n (v':=Vc j (xd (upd D i x))) (v:=Vc j (xd D)) (by rw[v1,v2];omega) tag;simp only[iP];omega
 ·have ec:cnt ⟨if x.stage=9 then 7 else x.stage,x.fuel,x.deaf⟩=cnt ⟨if(D i).stage=9 then 7 else(D i).stage,(D i).fuel,(D i).deaf⟩:=by simp only[cnt,h1]
  have ev:Vc j (xd (upd D i x))=Vc j (xd D):=by rw[v1,v2];omega
  have es:iP j (upd D i x)=iP j D:=by simp only[iP];omega
  rw[ev,es];refine aU _ (bj _ _ ⟨i,by omega,?_,λk hk=>?_⟩)
  ·simp only[ranks,am];rw[if_neg (by omega),if_neg (by omega)];exact h2
  ·simp only[ranks];rw[aA D _ hk]
 ·have ec:cnt ⟨if x.stage=9 then 7 else x.stage,x.fuel,x.deaf⟩=cnt ⟨if(D i).stage=9 then 7 else(D i).stage,(D i).fuel,(D i).deaf⟩:=by simp only[cnt,h1]
  have ev:Vc j (xd (upd D i x))=Vc j (xd D):=by rw[v1,v2];omega
  have es:iP j (upd D i x)=iP j D:=by simp only[iP];omega
  have er:ranks n (upd D i x) rk=ranks n D rk:=by
   funext k;simp only[ranks];by_cases e:k=i
   ·subst e;rw[am,h2]
   ·rw[aA D _ e]
  rw[ev,es,er];refine aU _ (aU _ ?_);simp only[kK];omega
end
section
variable [Payload] {P:ay} {ty:aL} {o Wg C n:Nat} {SB:Blocks} {ja:Nat->Blocks->aM->ag->Prop} {K:aa->ag->Prop} {L0:Nat} {w0:ag} {gs:Array aa} {w w':ag} {sl:Option (Nat×Nat)} {j:Nat} {D:Nat->WX} {q:Nat->Nat} {tag:Tag} {f0 d0:Nat} {rk:Rank} {FM OM:Blocks} {a:aa} {t:aF}
theorem callerStep (jg:∀i F v w w1,ja i F v w->Ext F w w1->ja i F v w1) (ha:gs[0]?=some a) (dP:iC P ty o Wg C n SB ja j gs w t D q d0) (S:Sep Wg C SB j D FM OM w) {tag':Tag} {f':Nat} {BU:Rank} {xQ xO:Blocks} {st' sm':Int} (hgo:ax P true a w=.go a' w' es)
  (vD:MS P ty Wg C n ja K tag' f' (az d0 es) BU xQ xO a' w') (S':Sep Wg C SB j D xQ xO w')
  (iK:∀i,i<j->Ext (D i).F w w'/\RW ty Wg C n 0 i w w') (eU:w.heap.size<=w'.heap.size)
  (fI:∀op∈aw 0 a.frame.fn a.frame.place es,Ok0 (ShP Wg SB) (qK o C j D) (RdD o j D) (o-1+j) op) (hm:∀e∈es,∀y,(ai e).touch?=some y->y.loc.isMemory=true)
  (zM:∀e∈es,e.loc≠.mark (.release (stA Wg))) (hl:∀e∈es,nV w'.heap.size (ai e)) (mG:cg C n w')
  (eZ:WgAt ty Wg w' st' sm') (dK:Mo j (xd D) tag' st' sm') (fu:JT n tag' j) (rz:Kept Wg C L0 w0 j D xO w')
  (dY:psi n (Vc j (xd D)) tag'<psi n (Vc j (xd D)) tag\/(psi n (Vc j (xd D)) tag'=psi n (Vc j (xd D)) tag/\Rank.sub BU rk)\/(psi n (Vc j (xd D)) tag'=psi n (Vc j (xd D)) tag/\BU=rk/\f'<f0)):
  ∃m₁ ops μ',runT P (crowd gs w sl) 0=(.next m₁,ops)/\MLt (n+1) μ' (psi n (Vc j (xd D)) tag+iP j D,ranks n D rk,f0+2*kK j D+2*sumTo o q)/\sZ P ty o Wg C n SB ja K L0 w0 μ' m₁ (t++ops):=by
 have dW:=dP.vB;have He:=fu.le;have eG:=bq (P:=P) (sl:=sl) (i:=0) ha (show ax P (0==0) a w=_ from hgo);have gT:=dP.step0 (fn:=a.frame.fn) (pos:=a.frame.place) jg S iK eU fI hm zM hl mG (a:=a) (a':=a');refine⟨_,_,_,eG,?_,_,w',sl,j,D,q,tag',f',az d0 es,BU,xQ,xO,a',st',sm',rfl,bB _ _ _ (by rw[dP.size];omega),vD,gT,S',eZ,dK,fu,rz,rfl⟩;rcases dY with h|⟨h1,h2⟩|⟨h1,h2,h3⟩
 ·exact bj _ _ (by omega)
 ·rw[h1];refine aU _ (bj _ _ ⟨n,by omega,by simp only[ranks,if_true];exact h2,λk hk=>?_⟩);simp only[ranks];rw[if_neg hk,if_neg hk]
 ·rw[h1,h2];exact aU _ (aU _ (by omega))
theorem q89 (ha:gs[0]?=some a) (kX:MS P ty Wg C n ja K tag f0 d0 rk FM OM a w) (dP:iC P ty o Wg C n SB ja j gs w t D q d0) (S:Sep Wg C SB j D FM OM w) (fu:JT n tag j) (eY:Kept Wg C L0 w0 j D OM w)
  {st sm:Int} (eZ:WgAt ty Wg w st sm) (dK:∀tag',(tag'=tag\/(tag=.blk/\tag'=.sm))->Mo j (xd D) tag' st sm) {k:Nat} (k0:0<k) (ko:k<o) (hg:gs[k]?=some g) (eG:g.status=.running):
  ∃m₁ ops μ',runT P (crowd gs w sl) k=(.next m₁,ops)/\MLt (n+1) μ' (psi n (Vc j (xd D)) tag+iP j D,ranks n D rk,f0+2*kK j D+2*sumTo o q)/\sZ P ty o Wg C n SB ja K L0 w0 μ' m₁ (t++ops):=by
 have hq:=dP.old k g k0 ko hg;cases Oa:q k with
 |zero=>rw[Oa]at hq;rw[hq.1]at eG;cases eG
 |succ q1=>
  rw[Oa]at hq;rcases hq with⟨hf,_⟩|⟨_,g',es,hm,DL,Df⟩
  ·rw[hf]at eG;cases eG
  have pU:=bq (P:=P) (sl:=sl) (i:=k) hg (by rw[show(k==0)=false from by simp;omega];exact DL w);obtain⟨tag',f',vD,Dr,rM,Ko⟩:=kX.wokenBy (jr w) g g';refine⟨_,_,_,pU,?_,_,w,sl,j,D,upd q k q1,tag',f',d0,rk,FM,OM,woken P g g' w a,st,sm,rfl,by rw[bm _ _ _ _ (by omega),ha];rfl,vD,dP.q92 S k0 ko hm Df,S,eZ,dK tag' rM,fu.retag rM,eY,rfl⟩;rw[SV n _ rM];have Pw:sumTo o (upd q k q1)+(q1+1)=sumTo o q+q1:=by
   have:=sumTo_upd q q1 id ko;simpa[Oa]using this
  exact aU _ (aU _ (by omega))
end
section
variable [Payload] {P:ay} {ty:aL} {o Wg C n:Nat} {SB:Blocks} {ja:Nat->Blocks->aM->ag->Prop} {K:aa->ag->Prop} {L0:Nat} {w0:ag} {gs:Array aa} {w w':ag} {sl:Option (Nat×Nat)} {j:Nat} {D:Nat->WX} {q:Nat->Nat} {tag:Tag} {f0 d0:Nat} {rk:Rank} {FM OM:Blocks} {a:aa} {t:aF} {st sm:Int}
theorem QU (hW:w'.heap[Wg]?=w.heap[Wg]?) (hC:w'.heap[C]?=w.heap[C]?):RW ty Wg C n 0 i w w':=
 ⟨λb hb=>absurd hb (av b),λ⟨s,m,h⟩=>⟨s,m,by unfold WgAt at *; rw[hW];exact h⟩,λ⟨cs,h1,h2⟩=>⟨cs,by rw[hC];exact h1,h2⟩,cell_of_block hC i⟩
omit [Payload] in
theorem Mo.congr {D D':Nat->WD} {tag:Tag} (h:∀a,a<j->(D' a).stage=(D a).stage) (hm:Mo j D tag st sm):Mo j D' tag st sm:=by
 have hv:Vc j D'=Vc j D:=sumTo_congr λa ha=>by simp only[cnt,h a ha]
 cases hm with
 |opn h1 h2 h3=>rw[<-hv];exact .opn h1 (λa ha=>by rw[h a ha];exact h2 a ha) (λvs e=>by rw[hv];exact h3 vs e)
 |reg h1 h2 h3=>rw[<-hv];exact .reg h1 (λa ha=>by rw[h a ha];exact h2 a ha) (by rw[hv];exact h3)
 |last L h1 h2 h3 h4=>rw[<-h L h2];exact .last L h1 h2 (by rw[h L h2];exact h3) (λa ha e=>by rw[h a ha];exact h4 a ha e)
 |sema h1 h2=>exact .sema h1 λa ha=>by rw[h a ha];exact h2 a ha
 |fin h1 h2=>exact .fin h1 λa ha=>by rw[h a ha];exact h2 a ha
omit [Payload] in
theorem Mo.retag {D:Nat->WD} {tag tag':Tag} (h:Mo j D tag st sm) (e:tag'=tag\/(tag=.blk/\tag'=.sm)):Mo j D tag' st sm:=by
 rcases e with rfl|⟨rfl,rfl⟩
 ·exact h
 ·cases h with
  |opn h1 _ _=>exact h1.elim
  |reg _ h2 h3=>exact .reg trivial h2 h3
  |last L _ h2 h3 h4=>exact .last L trivial h2 h3 h4
  |sema h1 _=>rcases h1 with h1|h1<;>cases h1
  |fin h1 _=>exact h1.elim
omit [Payload] in
theorem MV {F O:Blocks} (h:EvF F O e) {y:Touch} (hy:(ai e).touch?=some y):y.loc.isMemory=true/\y.kind=.plain/\uF F y.loc/\(y.write=true->uF O y.loc):=by
 obtain⟨loc,wt,sy⟩:=e;cases loc with
 |cell b=>
  obtain⟨h1,h2,h3⟩:=h;have h1:sy=false:=h1;subst h1;rw[cj]at hy;simp only[aO,aD]at hy;subst hy;exact⟨rfl,rfl,h2,h3⟩
 |obj r=>
  obtain⟨h1,h2,h3⟩:=h;have h1:sy=false:=h1;subst h1;have e0:ai ⟨.obj r,wt,false⟩=.access ⟨.obj r,wt,false⟩:=by cases wt<;>rfl
  rw[e0]at hy;simp only[aO,aD]at hy;subst hy;exact⟨rfl,rfl,h2,h3⟩
 |mark m=>
  cases m with
  |noRoom=>simp[ai,aO]at hy
  |_=>exact h.elim
 |_=>exact h.elim
omit [Payload] in
theorem Bc {F O:Blocks} (h:EvF F O e) (hB:∀b,F b->b<B):e.loc≠.mark .disable/\e.loc≠.mark .enable/\e.loc≠.mark (.release (stA Wg))/\(ai e).low B:=by
 have:=I6 (SB:=λ_=>False) h (λ_ _ x=>x) hB;refine⟨this.2.1,this.2.2.1,λhl=>?_,this.2.2.2⟩;obtain⟨loc,wt,sy⟩:=e;have hl:loc=_:=hl;subst hl;exact h
end
section
variable [Payload] {P:ay} {ty:aL} {o Wg C n:Nat} {SB:Blocks} {ja:Nat->Blocks->aM->ag->Prop} {K:aa->ag->Prop} {L0:Nat} {w0:ag} {gs:Array aa} {w w':ag} {sl:Option (Nat×Nat)} {j:Nat} {D:Nat->WX} {q:Nat->Nat} {tag:Tag} {f0 d0:Nat} {rk:Rank} {FM OM:Blocks} {a:aa} {t:aF} {st sm:Int}
omit [Payload] in
theorem Sep.stepW (S:Sep Wg C SB j D FM OM w) (hi:i<j) {x:WX} (eU:w.heap.size<=w'.heap.size) (kS:∀b,x.F b->(D i).F b\/w.heap.size<=b) (wz:∀b,x.O b->(D i).O b\/w.heap.size<=b) (fD:∀b,x.O b->x.F b) (oI:∀b,x.F b->b<w'.heap.size):Sep Wg C SB j (upd D i x) FM OM w':=by
 have lW:=S.lW;have lC:=S.lC;refine⟨λi' fe b hb=>?_,λi' fe b hb=>?_,λi1 i2 h1 h2 eB b hb fJ=>?_,λb hb=>?_,λb hb=>?_,xll S.lW eU,xll S.lC eU,λb hb=>xll (S.lS b hb) eU,S.hCW,S.sW,S.sC⟩
 ·by_cases e:i'=i
  ·subst e;rw[am]at hb;refine⟨oI b hb,?_⟩;rcases kS b hb with h|h
   ·exact(S.wF i' fe b h).2
   ·exact⟨by omega,by omega,λhs=>by have:=S.lS b hs;omega⟩
  ·rw[aA D _ e]at hb;have:=S.wF i' fe b hb;exact⟨by omega,this.2⟩
 ·by_cases e:i'=i
  ·subst e;rw[am]at hb⊢;exact fD b hb
  ·rw[aA D _ e]at hb⊢;exact S.wO i' fe b hb
 ·by_cases e1:i1=i
  ·subst e1;rw[am]at hb;rw[aA D _ (λh=>eB h.symm)]at fJ;rcases wz b hb with h|h
   ·exact S.apart _ _ h1 h2 eB b h fJ
   ·have:=(S.wF i2 h2 b fJ).1;omega
  ·rw[aA D _ e1]at hb;by_cases e2:i2=i
   ·subst e2;rw[am]at fJ;rcases kS b fJ with h|h
    ·exact S.apart _ _ h1 h2 eB b hb h
    ·have:=(S.wF i1 h1 b (S.wO i1 h1 b hb)).1;omega
   ·rw[aA D _ e2]at fJ;exact S.apart _ _ h1 h2 eB b hb fJ
 ·have:=S.mF b hb;refine⟨by omega,this.2.1,this.2.2.1,this.2.2.2.1,λi' fe ho=>?_⟩;by_cases e:i'=i
  ·subst e;rw[am]at ho;rcases wz b ho with h|h
   ·exact this.2.2.2.2 i' fe h
   ·omega
  ·rw[aA D _ e]at ho;exact this.2.2.2.2 i' fe ho
 ·have h1:=S.mO b hb;have h2:=S.mF b h1.1;refine⟨h1.1,λi' fe hf=>?_⟩;by_cases e:i'=i
  ·subst e;rw[am]at hf;rcases kS b hf with h|h
   ·exact h1.2 i' fe h
   ·omega
  ·rw[aA D _ e]at hf;exact h1.2 i' fe hf
omit [Payload] in
theorem Kept.stepW (h:Kept Wg C L0 w0 j D OM w) {x:WX} (Wt:L0<=w.heap.size) (Iq:∀b,b<L0->w'.heap[b]?=w.heap[b]?) (wz:∀b,x.O b->(D i).O b\/w.heap.size<=b) (ht:w'.tape=w.tape) (Oh:w'.os=w.os) (PE:w'.output=w.output) (oz:NB w->NB w'):Kept Wg C L0 w0 j (upd D i x) OM w':=by
 refine⟨λb hb=>(Iq b hb).trans (h.keep b hb),h.lW,h.lC,λi' fe b hb=>?_,h.lM,ht.trans h.tape,Oh.trans h.os,PE.trans h.output,λx=>oz (h.nb x)⟩;by_cases e:i'=i
 ·subst e;rw[am]at hb;rcases wz b hb with y|y
  ·exact h.lO i' fe b y
  ·omega
 ·rw[aA D _ e]at hb;exact h.lO i' fe b hb
theorem q9b (jg:∀i F v w w1,ja i F v w->Ext F w w1->ja i F v w1) (ha:gs[0]?=some a) (kX:MS P ty Wg C n ja K tag f0 d0 rk FM OM a w) (dP:iC P ty o Wg C n SB ja j gs w t D q d0) (S:Sep Wg C SB j D FM OM w) (fu:JT n tag j) (eY:Kept Wg C L0 w0 j D OM w)
  (eZ:WgAt ty Wg w st sm) (dK:Mo j (xd D) tag st sm) (hi:i<j) (hg:gs[o+i]?=some g) (h9:(D i).stage=9) (hd:(D i).deaf=0) {f:ag->Rank} (N8:(D i).rank=.node f)
  (hw:WGo P false (Ew P ty Wg C n ja i) (.node f) (D i).F (D i).O g w):
  ∃m₁ ops μ',runT P (crowd gs w sl) (o+i)=(.next m₁,ops)/\MLt (n+1) μ' (psi n (Vc j (xd D)) tag+iP j D,ranks n D rk,f0+2*kK j D+2*sumTo o q)/\sZ P ty o Wg C n SB ja K L0 w0 μ' m₁ (t++ops):=by
 obtain⟨F',O',g',w',es,hgo,ok,qX⟩:=hw.2 w (Ext.refl ..);have lW:=S.lW;have lC:=S.lC;have nO:∀b,(D i).O b->b≠Wg/\b≠C:=λb hb=>⟨(S.wF i hi b (S.wO i hi b hb)).2.1,(S.wF i hi b (S.wO i hi b hb)).2.2.1⟩
 have hW:w'.heap[Wg]?=w.heap[Wg]?:=ok.keep Wg lW λh=>(nO Wg h).1 rfl;have hC:w'.heap[C]?=w.heap[C]?:=ok.keep C lC λh=>(nO C h).2 rfl
 let x:WX:=⟨9,0,0,f w,F',O',(D i).val⟩
 have S':Sep Wg C SB j (upd D i x) FM OM w':=S.stepW hi (x:=x) ok.size ok.new ok.Au ok.own ok.low;have iy:WgAt ty Wg w' st sm:=by unfold WgAt at *; rw[hW];exact eZ
 refine workerStep jg ha kX dP S fu eY hi hg hgo (x:=x) S' ⟨⟨ok.size,λb hb=>ok.keep b (S.mF b hb).1 ((S.mF b hb).2.2.2.2 i hi)⟩,λ_=>⟨_,_,iy⟩⟩
  (λi' fe eB=>⟨⟨ok.size,λb hb=>ok.keep b (S.wF i' fe b hb).1 λho=>S.apart i i' hi fe (λe=>eB e.symm) b ho hb⟩,QU hW hC⟩)
  (.own rfl rfl rfl qX) ok.size ok.sub ok.NF ok.new ok.Au (λe he y hy=>?_) (λe he=>(Bc (ok.ev e he) ok.low).2.2.1) (λe he=>CB (Bc (Wg:=Wg) (ok.ev e he) ok.low).2.2.2)
  ?_ (λh=>absurd (show 9<=6 from h) (by decide)) (λh=>absurd (show 9<=6 from h) (by decide)) ?_ iy (λtag' ht _=>(dK.congr λa' _=>?_).retag ht) ?_ (.inr (.inl ⟨h9.symm,by rw[N8];exact⟨w,rfl⟩⟩))
 ·obtain⟨h1,h2,h3,h4⟩:=MV (ok.ev e he) hy;refine⟨h1,.inr ⟨h2,?_⟩⟩;by_cases ho:uF O' y.loc
  ·exact .inl ⟨i,hi,rfl,.inl (by rw[am];exact ho)⟩
  ·refine .inr ⟨⟨i,hi,rfl,?_⟩,by cases hyw:y.write with|false=>rfl|true=>exact absurd (h4 hyw) ho⟩;rw[am];show uF (λb=>F' b/\¬O' b) y.loc;generalize y.loc=l at h3 ho;cases l with
   |cell c=>exact⟨h3,ho⟩
   |obj c=>exact⟨h3,ho⟩
   |_=>exact h3.elim
 ·rw[hd];exact deafBehind_idle (λe he=>⟨(Bc (Wg:=Wg) (ok.ev e he) ok.low).1,(Bc (Wg:=Wg) (ok.ev e he) ok.low).2.1⟩) 0
 ·obtain⟨cs,h1,h2⟩:=dP.pay;exact⟨cs,by rw[hC];exact h1,h2⟩
 ·by_cases e:a'=i
  ·subst e;simp only[xd,am,h9,x]
  ·simp only[xd];rw[aA D _ e]
 ·exact eY.stepW (x:=x) (xlt eY.lW (bK lW)) (λb hb=>ok.keep b (xll hb (xlt eY.lW (bK lW))) λho=>by have:=eY.lO i hi b ho;omega) ok.Au ok.tape ok.os ok.output ok.nb
end
end
section
open Go Go.Conc Go.ConcN Sim
open Go.ConcR (KK WgAt stA smA rd wr mk Payload DC0 g_of_ofEvents Bk bk_of_mute ofEvent_loc_mark ofEvent_cell)
section
variable [Payload] {C n i:Nat} {w:ag}
theorem qna (hp:cg C n w) (v:aM):AsideCell C n i w (w.setCell ⟨C,i,none⟩ v):=by
 have hA:=aK w ⟨C,i,none⟩ v;obtain⟨arr,h1,h2⟩:=hp;have hb:(w.setCell ⟨C,i,none⟩ v).heap[C]?=some (.cells (arr.setIfInBounds i v) Payload.ety):=by
  rw[cq w C i arr _ (0,0) _ h1,setRow_heap w C _ _ _ _ h1]
 refine⟨hA.tape,hA.os,hA.output,hA.size,λb fQ=>hA.block b fQ,λ_=>⟨_,hb,by simpa using h2⟩,λi' fe=>?_⟩;simp[World.cell?,hb,h1,xne (Ne.symm fe)]
theorem q6m (hp:cg C n w) (hj:i<n) (v:aM):Has C i v (w.setCell ⟨C,i,none⟩ v):=by
 obtain⟨arr,h1,h2⟩:=hp;have hb:(w.setCell ⟨C,i,none⟩ v).heap[C]?=some (.cells (arr.setIfInBounds i v) Payload.ety):=by
  rw[cq w C i arr _ (0,0) _ h1,setRow_heap w C _ _ _ _ h1]
 simp[Has,World.cell?,hb,h2,hj]
omit [Payload] in
theorem q65 (hW:Wg<B) (h:Bk Wg e):nV B (ai e):=by
 intro y hy;rcases h with h1|h1|⟨a,wr,rfl,ha⟩
 ·rw[ofEvent_loc_mark h1]at hy;cases hy
 ·rw[ofEvent_loc_mark h1]at hy;cases hy
 ·rw[ofEvent_cell]at hy;simp only[aO,aD]at hy;subst hy;show a.block<B;omega
end
section
variable [Payload] {P:ay} {ty:aL} {o Wg C n:Nat} {SB:Blocks} {ja:Nat->Blocks->aM->ag->Prop} {K:aa->ag->Prop} {L0:Nat} {w0:ag} {gs:Array aa} {w w':ag} {sl:Option (Nat×Nat)} {j:Nat} {D:Nat->WX} {q:Nat->Nat} {tag:Tag} {f0 d0:Nat} {rk:Rank} {FM OM:Blocks} {a:aa} {t:aF} {st sm:Int}
omit [Payload] in
theorem Sep.same (S:Sep Wg C SB j D FM OM w) (hi:i<j) {x:WX} (hF:x.F=(D i).F) (hO:x.O=(D i).O) (eU:w.heap.size<=w'.heap.size):Sep Wg C SB j (upd D i x) FM OM w':=
 S.stepW hi eU (λb hb=>.inl (hF▸hb)) (λb hb=>.inl (hO▸hb)) (λb hb=>by rw[hF];rw[hO]at hb;exact S.wO i hi b hb) (λb hb=>by rw[hF]at hb;have:=(S.wF i hi b hb).1;omega)
theorem YP (jg:∀i F v w w1,ja i F v w->Ext F w w1->ja i F v w1) (ha:gs[0]?=some a) (kX:MS P ty Wg C n ja K tag f0 d0 rk FM OM a w) (dP:iC P ty o Wg C n SB ja j gs w t D q d0) (S:Sep Wg C SB j D FM OM w) (fu:JT n tag j) (eY:Kept Wg C L0 w0 j D OM w)
  (eZ:WgAt ty Wg w st sm) (dK:Mo j (xd D) tag st sm) (hi:i<j) (hg:gs[o+i]?=some g) (h9:(D i).stage=9) (hd:(D i).deaf=0)
  (hs:Ew P ty Wg C n ja i (D i).F (D i).O g w):
  ∃m₁ ops μ',runT P (crowd gs w sl) (o+i)=(.next m₁,ops)/\MLt (n+1) μ' (psi n (Vc j (xd D)) tag+iP j D,ranks n D rk,f0+2*kK j D+2*sumTo o q)/\sZ P ty o Wg C n SB ja K L0 w0 μ' m₁ (t++ops):=by
 obtain⟨_,v,rO,hx⟩:=hs;obtain⟨g',hgo,m,hk⟩:=hx w (Ext.refl ..) dP.pay ⟨_,_,eZ⟩;have lW:=S.lW;have lC:=S.lC;have hA:AsideCell C n i w (w.setCell ⟨C,i,none⟩ v):=qna dP.pay v
 let x:WX:=⟨7,m,0,.leaf,(D i).F,(D i).O,v⟩
 have S':Sep Wg C SB j (upd D i x) FM OM (w.setCell ⟨C,i,none⟩ v):=S.same hi (x:=x) rfl rfl (by rw[hA.size];exact ji _);have iy:WgAt ty Wg (w.setCell ⟨C,i,none⟩ v) st sm:=eZ.of_block (hA.block Wg (Ne.symm S.hCW));have mH:∀{F:Blocks},¬F C->Ext F w (w.setCell ⟨C,i,none⟩ v):=λhn=>⟨by rw[hA.size];exact ji _,λb hb=>hA.block b λe=>hn (e▸hb)⟩
 have WT:∀i',i'<j->¬(D i').F C:=λi' fe h=>(S.wF i' fe C h).2.2.1 rfl;refine workerStep jg ha kX dP S fu eY hi hg hgo (x:=x) S' ⟨mH λh=>(S.mF C h).2.2.1 rfl,λ_=>⟨_,_,iy⟩⟩
  (λi' fe eB=>⟨mH (WT i' fe),RW.of_cell hA eB S.hCW⟩)
  (.lib (.r0 hk) (jg _ _ _ _ _ rO (mH (WT i hi)))) (by rw[hA.size];exact ji _) (λ_ h=>h) (λ_ h=>h) (λ_ h=>.inl h) (λ_ h=>.inl h) (λe he y hy=>?_) (λe he=>?_) (λe he y hy=>?_)
  ?_ (λh=>absurd (show 7<=6 from h) (by decide)) (λh=>absurd (show 7<=6 from h) (by decide)) (hA.pay dP.pay) iy (λtag' ht _=>(dK.congr λa' _=>?_).retag ht) ?_ (.inl ⟨by rw[h9];exact(by decide:7<9),?_⟩)
 ·simp only[bg,bh]at he;subst he;rw[cj]at hy;simp only[aO,aD]at hy;subst hy;exact⟨rfl,.inr ⟨rfl,.inl ⟨i,hi,rfl,.inr rfl⟩⟩⟩
 ·simp only[bg,bh]at he;subst he;simp
 ·simp only[bg,bh]at he;subst he;rw[cj]at hy;simp only[aO,aD]at hy;subst hy;show C<_;rw[hA.size];exact lC
 ·rw[hd];rfl
 ·by_cases e:a'=i
  ·subst e;simp only[xd,am,h9,x];decide
  ·simp only[xd];rw[aA D _ e]
 ·refine eY.stepW (x:=x) (xlt eY.lW (bK lW)) (λb hb=>hA.block b λe=>?_) (λb hb=>.inl hb) hA.tape hA.os hA.output (JH hA.block (let⟨_,h,_⟩:=hA.pay dP.pay;⟨_,_,_,h⟩));have:=eY.lC;omega
 ·simp only[xd,am,h9,x];simp[cnt]
end
theorem I4 (D:Nat->WX) (i:Nat) (x:WX):xd (upd D i x)=upd (xd D) i ⟨if x.stage=9 then 7 else x.stage,x.fuel,x.deaf⟩:=by
 funext k;by_cases e:k=i
 ·subst e;simp only[xd,am]
 ·rw[aA (xd D) _ e];simp only[xd];rw[aA D _ e]
theorem JT.bound {tag:Tag} (h:JT n tag j):j+l8 tag<=n:=by
 cases tag<;>simp only[JT,l8]at h⊢<;>omega
section
variable {j i:Nat} {D:Nat->WD} {tag:Tag} {st sm:Int}
theorem Mo.same (hm:Mo j D tag st sm) (m' ng:Nat):Mo j (upd D i ⟨(D i).stage,m',ng⟩) tag st sm:=
 hm.congr λa _=>by
  by_cases e:a=i
  ·subst e;rw[am]
  ·rw[aA D _ e]
theorem Mo.counted (hm:Mo j D tag st sm) (hi:i<j) (h5:5<=(D i).stage) {s':Nat} (hs:s'=6\/s'=5) (m' ng:Nat):Mo j (upd D i ⟨s',m',ng⟩) tag st sm:=by
 have hv:Vc j (upd D i ⟨s',m',ng⟩)=Vc j D:=by
  have:=Vc_upd D (⟨s',m',ng⟩:WD) hi;have c1:cnt (D i)=1:=by simp[cnt,h5]
  have c2:cnt (⟨s',m',ng⟩:WD)=1:=by rcases hs with rfl|rfl<;>simp[cnt]
  omega
 have ho:OpenSt j D->OpenSt j (upd D i ⟨s',m',ng⟩):=λh a ha=>by
  by_cases e:a=i
  ·subst e;rw[am];rcases hs with rfl|rfl<;>simp
  ·rw[aA D _ e];exact h a ha
 cases hm with
 |opn h1 h2 h3=>rw[<-hv];exact .opn h1 (ho h2) (λvs e=>by rw[hv];exact h3 vs e)
 |reg h1 h2 h3=>rw[<-hv];exact .reg h1 (ho h2) (by rw[hv];exact h3)
 |last L h1 h2 h3 h4=>
  by_cases e:i=L
  ·subst e;omega
  ·have:=h4 i hi e;omega
 |sema _ h2=>have:=h2 i hi;omega
 |fin h1 h2=>have:=h2 i hi;omega
theorem Mo.isLast (hm:Mo j D tag st sm) (hi:i<j) (h:(D i).stage=4\/(D i).stage=3\/(D i).stage=2):
  Nr tag/\(∀a,a<j->a≠i->(D a).stage=1)/\st=(if(D i).stage=2 then 0 else 1)/\sm=0:=by
 cases hm with
 |opn _ h2 _=>have:=h2 i hi;omega
 |reg _ h2 _=>have:=h2 i hi;omega
 |last L h1 h2 h3 h4=>
  by_cases e:i=L
  ·subst e;exact⟨h1,h4,rfl,rfl⟩
  ·have:=h4 i hi e;omega
 |sema _ h2=>have:=h2 i hi;omega
 |fin _ h2=>have:=h2 i hi;omega
end
section
variable [Payload] {P:ay} {ty:aL} {o Wg C n:Nat} {SB:Blocks} {ja:Nat->Blocks->aM->ag->Prop} {K:aa->ag->Prop} {L0:Nat} {w0:ag} {gs:Array aa} {w w':ag} {sl:Option (Nat×Nat)} {j:Nat} {D:Nat->WX} {q:Nat->Nat} {tag:Tag} {f0 d0:Nat} {rk:Rank} {FM OM:Blocks} {a:aa} {t:aF} {st sm:Int}
omit [Payload] in
theorem Yl {x:bp} (h:Bk Wg x) {y:Touch} (hy:(ai x).touch?=some y):y.loc.isMemory=true/\ShP Wg SB y.loc/\y.kind=.atomic:=by
 rcases h with h1|h1|⟨b,wr,rfl,hb⟩
 ·rw[ofEvent_loc_mark h1]at hy;cases hy
 ·rw[ofEvent_loc_mark h1]at hy;cases hy
 ·rw[ofEvent_cell]at hy;simp only[aO,aD]at hy;subst hy;exact⟨rfl,⟨b,rfl,.inr hb⟩,rfl⟩
theorem q64 (jg:∀i F v w w1,ja i F v w->Ext F w w1->ja i F v w1) (hn:n<2147483648) (ha:gs[0]?=some a) (kX:MS P ty Wg C n ja K tag f0 d0 rk FM OM a w) (dP:iC P ty o Wg C n SB ja j gs w t D q d0) (S:Sep Wg C SB j D FM OM w) (fu:JT n tag j) (eY:Kept Wg C L0 w0 j D OM w)
  (eZ:WgAt ty Wg w st sm) (dK:Mo j (xd D) tag st sm) (hi:i<j) (hg:gs[o+i]?=some g) (eG:g.status=.running)
  (hs:WSit P ty Wg C n qD qD 0 (i+1) (D i).val (D i).stage (D i).fuel (D i).deaf g w) (rO:ja i (D i).F (D i).val w):
  ∃m₁ ops μ',runT P (crowd gs w sl) (o+i)=(.next m₁,ops)/\MLt (n+1) μ' (psi n (Vc j (xd D)) tag+iP j D,ranks n D rk,f0+2*kK j D+2*sumTo o q)/\sZ P ty o Wg C n SB ja K L0 w0 μ' m₁ (t++ops):=by
 have lW:=S.lW;have lC:=S.lC;have hCW:=S.hCW;have dW:=dP.vB;have hb:=fu.bound;have KI:=Vc_le j (xd D);have kL:=eY.lW;have kC:=eY.lC;have mW:¬FM Wg:=λh=>(S.mF Wg h).2.1 rfl;have mC:¬FM C:=λh=>(S.mF C h).2.2.1 rfl;have wW:∀i',i'<j->¬(D i').F Wg:=λi' h' h=>(S.wF i' h' Wg h).2.1 rfl;have wC:∀i',i'<j->¬(D i').F C:=λi' h' h=>(S.wF i' h' C h).2.2.1 rfl;generalize hst:(D i).stage=s at hs;generalize Ou:(D i).fuel=m at hs;generalize Hq:(D i).deaf=dd at hs;have WA:Deaf t (o+i)=dd:=by rw[dP.deafW i hi,Hq]
 have XK:s≠9:=by rintro rfl;cases hs
 have xR:(xd D i).stage=s:=by simp only[xd,hst];rw[if_neg XK]
 have xfu:(xd D i).fuel=m:=Ou;have xde:(xd D i).deaf=dd:=Hq
 -- A Qr OF THE Fu BQ:at most the K9 block turns
 have BP:∀{g':aa} {w':ag} {es:Array bp} {s' m' ng:Nat} {st' sm':Int},ax P false g w=.go g' w' es->Aside Wg w w'->WgAt ty Wg w' st' sm'->(∀e∈es,Bk Wg e)->
   (∀jx e,es[jx]?=some e->(ai e).touch?=none\/0<az dd (es.extract 0 jx))->WSit P ty Wg C n qD qD 0 (i+1) (D i).val s' m' ng g' w'->az dd es=ng->s<=6->s'<=7->
   (∀tag',(tag'=tag\/(tag=.blk/\tag'=.sm))->(mayWake P g=true->g'.status=.running->tag'≠.blk)->Mo j (upd (xd D) i ⟨s',m',ng⟩) tag' st' sm')->((s'<s/\cnt ⟨s',m',ng⟩<=cnt (xd D i))\/(s'=s/\m'+1=m))->
   ∃m₁ ops μ',runT P (crowd gs w sl) (o+i)=(.next m₁,ops)/\MLt (n+1) μ' (psi n (Vc j (xd D)) tag+iP j D,ranks n D rk,f0+2*kK j D+2*sumTo o q)/\sZ P ty o Wg C n SB ja K L0 w0 μ' m₁ (t++ops):=by
  intro g' w' es s' m' ng st' sm' hgo o6 iy Bw hd nK Ox h6 h7 mP dY;obtain⟨cs,Qd,Qc⟩:=dP.pay;have eU:w.heap.size<=w'.heap.size:=by rw[o6.size];exact ji _
  have mH:∀{F:Blocks},¬F Wg->Ext F w w':=λhn=>⟨eU,λb hb=>o6.block b λe=>hn (e▸hb)⟩
  let x:WX:=⟨s',m',ng,(D i).rank,(D i).F,(D i).O,(D i).val⟩
  have ex:xd (upd D i x)=upd (xd D) i ⟨s',m',ng⟩:=by rw[I4];show upd (xd D) i (⟨if s'=9 then 7 else s',m',ng⟩:WD)=_;rw[if_neg (by omega)]
  refine workerStep jg ha kX dP S fu eY hi hg hgo (x:=x) (S.same hi rfl rfl eU) ⟨mH mW,λ_=>⟨_,_,iy⟩⟩ (λi' fe eB=>⟨mH (wW i' fe),RW.of_wg o6 ⟨_,_,iy⟩ hCW⟩)
   (.lib nK (jg _ _ _ _ _ rO (mH (wW i hi)))) eU (λ_ h=>h) (λ_ h=>h) (λ_ h=>.inl h) (λ_ h=>.inl h)
   (λe he y hy=>let⟨h1,h2,h3⟩:=Yl (Bw e he) hy;⟨h1,.inl ⟨h2,h3⟩⟩) (λe he=>(norel_of_Bk Bw) e he) (λe he=>q65 (by omega) (Bw e he))
   (by rw[Hq];exact Ox) (λ_=>let⟨r,hr⟩:=dP.rel i hi (by omega);⟨r,hr.book WA _ _ Bw hd⟩) (λ_=>(cell_of_block (o6.block C hCW) i).trans (dP.has i hi (by omega))) ⟨cs,(o6.block C hCW).trans Qd,Qc⟩ iy
   (λtag' ht hw=>by rw[ex];exact mP tag' ht hw) (eY.stepW (by omega) (λb hb=>o6.block b (by omega)) (λ_ h=>.inl h) o6.tape o6.os o6.output (JH o6.block ⟨_,_,_,iy⟩)) ?_
  rcases dY with⟨h1,h2⟩|⟨h1,h2⟩
  ·refine .inl ⟨by rw[hst];exact h1,?_⟩;rw[ex,am];exact h2
  ·exact .inr (.inr ⟨by rw[hst];exact h1,rfl,by rw[Ou];exact h2⟩)
 have book:∀{g':aa} {w':ag} {es:Array bp} {s' m' ng:Nat} {st' sm':Int},ax P false g w=.go g' w' es->Aside Wg w w'->WgAt ty Wg w' st' sm'->(∀e∈es,Bk Wg e)->
   (∀jx e,es[jx]?=some e->(ai e).touch?=none\/0<az dd (es.extract 0 jx))->WSit P ty Wg C n qD qD 0 (i+1) (D i).val s' m' ng g' w'->az dd es=ng->s<=6->s'<=7->
   Mo j (upd (xd D) i ⟨s',m',ng⟩) tag st' sm'->((s'<s/\cnt ⟨s',m',ng⟩<=cnt (xd D i))\/(s'=s/\m'+1=m))->
   ∃m₁ ops μ',runT P (crowd gs w sl) (o+i)=(.next m₁,ops)/\MLt (n+1) μ' (psi n (Vc j (xd D)) tag+iP j D,ranks n D rk,f0+2*kK j D+2*sumTo o q)/\sZ P ty o Wg C n SB ja K L0 w0 μ' m₁ (t++ops):=
  λhgo o6 iy Bw hd nK Ox h6 h7 mP dY=>BP hgo o6 iy Bw hd nK Ox h6 h7 (λ_ ht _=>mP.retag ht) dY
 -- AN IDLE Qr Qu THE La:nothing turns,nothing is listed
 have idle:∀{g':aa} {m':Nat},ax P false g w=.go g' w #[]->WSit P ty Wg C n qD qD 0 (i+1) (D i).val s m' dd g' w->m'+1=m->s<=6->
   ∃m₁ ops μ',runT P (crowd gs w sl) (o+i)=(.next m₁,ops)/\MLt (n+1) μ' (psi n (Vc j (xd D)) tag+iP j D,ranks n D rk,f0+2*kK j D+2*sumTo o q)/\sZ P ty o Wg C n SB ja K L0 w0 μ' m₁ (t++ops):=by
  intro g' m' hgo nK hm h6;exact book hgo (.refl Wg w) eZ (by simp) (by simp) nK rfl h6 (by omega) (by have:=dK.same (i:=i) m' dd;rwa [xR]at this) (.inr ⟨rfl,hm⟩)
 cases hs with
 |r0 h=>
  rcases aC h with eH|⟨m',rfl,dn⟩
  ·obtain⟨_,kZ,g',hgo,m₂,hk⟩:=eH w (bo w)
   let x:WX:=⟨6,m₂,0,(D i).rank,(D i).F,(D i).O,(D i).val⟩
   have ex:xd (upd D i x)=upd (xd D) i ⟨6,m₂,0⟩:=by rw[I4];rfl
   refine workerStep jg ha kX dP S fu eY hi hg hgo (x:=x) (S.same hi rfl rfl (ji _)) (jr w) (λi' fe eB=>⟨Ext.refl ..,bo w⟩)
    (.lib (.k1 hk) rO) (ji _) (λ_ h=>h) (λ_ h=>h) (λ_ h=>.inl h) (λ_ h=>.inl h)
    (λe he y hy=>by simp at he;subst he;cases hy) (λe he=>by simp at he;subst he;simp[mk]) (λe he y hy=>by simp at he;subst he;cases hy)
    (by rw[Hq];rfl) (λ_=>⟨t.size,RelBy.new WA _ _⟩) (λ_=>by simpa using kZ) dP.pay eZ
    (λtag' ht hw=>by rw[ex];exact(dK.counted hi (by omega) (.inl rfl) _ _).retag ht) (eY.stepW (by omega) (λ_ _=>rfl) (λ_ h=>.inl h) rfl rfl rfl id) (.inl ⟨by rw[hst];exact(by decide:6<7),?_⟩)
   rw[ex,am];simp[cnt,xR]
  ·obtain⟨g',w',es,hgo,⟨uX,lX⟩,gF⟩:=dn w (bo w);simp only[Nat.add_sub_cancel]at uX;have eU:w.heap.size<=w'.heap.size:=by rw[uX.size];exact ji _
   have mH:∀{F:Blocks},¬F C->Ext F w w':=λhn=>⟨eU,λb hb=>uX.block b λe=>hn (e▸hb)⟩
   have iy:WgAt ty Wg w' st sm:=eZ.of_block (uX.block Wg (Ne.symm hCW));have QB:∀e∈es,∀y,(ai e).touch?=some y->∃b,y.loc=.cell b/\b.block=Wg/\y.kind=.atomic:=λe he y hy=>by
    rcases((lX e he).1 (0:Nat) "").2 y hy with⟨⟨b,h1,h2⟩,h3,h4⟩|h1|⟨h1,_⟩
    ·refine⟨b,h1,h2,?_⟩;cases hk:y.kind with
     |atomic=>rfl
     |plain=>exact absurd hk h3
     |said=>exact absurd hk h4
    ·exact h1.elim
    ·exact h1.elim
   let x:WX:=⟨7,m',0,(D i).rank,(D i).F,(D i).O,(D i).val⟩
   have ex:xd (upd D i x)=upd (xd D) i ⟨7,m',0⟩:=by rw[I4];rfl
   refine workerStep jg ha kX dP S fu eY hi hg hgo (x:=x) (S.same hi rfl rfl eU) ⟨mH mC,λ_=>⟨_,_,iy⟩⟩ (λi' fe eB=>⟨mH (wC i' fe),RW.of_cell uX eB hCW⟩)
    (.lib (.r0 gF) (jg _ _ _ _ _ rO (mH (wC i hi)))) eU (λ_ h=>h) (λ_ h=>h) (λ_ h=>.inl h) (λ_ h=>.inl h)
    (λe he y hy=>?_) (λe he=>(lX e he).2.2.2) (λe he y hy=>?_)
    (by rw[Hq];exact deafBehind_idle (λe he=>⟨(lX e he).2.1,(lX e he).2.2.1⟩) 0) (λh=>absurd (show 7<=6 from h) (by decide)) (λh=>absurd (show 7<=6 from h) (by decide)) (uX.pay dP.pay) iy
    (λtag' ht hw=>by rw[ex];exact Mo.retag (by have:=dK.same (i:=i) m' 0;rwa [xR]at this) ht) (eY.stepW (by omega) (λb hb=>uX.block b (by omega)) (λ_ h=>.inl h) uX.tape uX.os uX.output (JH uX.block (let⟨_,h,_⟩:=uX.pay dP.pay;⟨_,_,_,h⟩)))
    (.inr (.inr ⟨hst.symm,rfl,Ou.symm⟩))
   ·obtain⟨b,h1,h2,h3⟩:=QB e he y hy;rw[h1];exact⟨rfl,.inl ⟨⟨b,rfl,.inr h2⟩,h3⟩⟩
   ·obtain⟨b,h1,h2,h3⟩:=QB e he y hy;rw[h1];show b.block<_;omega
 |k1 h=>
  rcases aC h with eH|⟨m',rfl,dn⟩
  ·obtain⟨_,g',hgo,m₂,hk⟩:=eH w (bo w);exact book hgo (.refl Wg w) eZ (by intro e he;simp at he;subst he;exact .inl rfl) (by intro jx e he;exact .inl (by have:=bk he;simp at this;subst this;rfl)) (.d1 hk) rfl (by omega) (by omega)
    (dK.counted hi (by omega) (.inr rfl) _ _) (.inl ⟨by omega,by simp[cnt,xR]⟩)
  ·obtain⟨g',w',es,hgo,⟨rfl,rfl⟩,gF⟩:=dn w (bo w);exact idle hgo (.k1 gF) rfl (by omega)
 |d1 h=>
  rcases aC h with eH|⟨m',rfl,dn⟩
  ·obtain⟨_,fH⟩:=eH w (bo w);have jW:cnt (xd D i)=1:=by simp[cnt,xR]
   have hV1:1<=Vc j (xd D):=by have:=le_sumTo (f:=λx=>cnt (xd D x)) hi;simp only[Vc];omega
   have bk2:∀e∈#[rd (stA Wg),wr (stA Wg)],Bk Wg e:=by intro e he;simp at he;rcases he with rfl|rfl<;>exact bk_cell _ _ rfl
   have OX:∀jx e,(#[rd (stA Wg),wr (stA Wg)]:Array bp)[jx]?=some e->(ai e).touch?=none\/0<az 1 ((#[rd (stA Wg),wr (stA Wg)]:Array bp).extract 0 jx):=by
    intro jx e he;match jx,he with
    |0,_=>exact .inr (by simp[az])
    |1,_=>exact .inr (by simp[az,rd])
    |jx+2,he=>simp at he
   have Wl:∀q,cnt (⟨1,q,1⟩:WD)=0:=λ_=>rfl;have Vd:∀q,OpenSt j (xd D)->OpenSt j (upd (xd D) i ⟨1,q,1⟩):=λq h a ha=>by
    by_cases e:a=i
    ·subst e;rw[am];simp
    ·rw[aA (xd D) _ e];exact h a ha
   cases dK with
   |opn h1 h2 h3=>
    obtain⟨v,hv⟩:∃v,Vc j (xd D)+l8 tag=v+1:=⟨Vc j (xd D)+l8 tag-1,by omega⟩
    rw[hv]at eZ;have Da:WgAt ty Wg w (((v:Nat)+1)*KK+((0:Nat):Int)) 0:=by simpa using eZ
    obtain⟨g',hgo,_,hq⟩:=fH v 0 (by omega) (by omega) Da;obtain⟨q,hq⟩:=hq (by omega);have Kr:Vc j (upd (xd D) i ⟨1,q,1⟩)+l8 tag=v:=by have:=Vc_upd (xd D) (⟨1,q,1⟩:WD) hi;have:=Wl q;omega
    refine book hgo (aK w (stA Wg) _) (eZ.setSt _) bk2 OX (.quit hq) rfl (by omega) (by omega) ?_ (.inl ⟨by omega,by simp[cnt]⟩);have e:((v:Nat):Int)*KK+((0:Nat):Int)=((Vc j (upd (xd D) i ⟨1,q,1⟩)+l8 tag:Nat):Int)*KK:=by rw[Kr];simp
    rw[e];exact .opn h1 (Vd q h2) (λvs ev=>by have:=h3 vs ev;omega)
   |reg h1 h2 h3=>
    obtain⟨v,hv⟩:∃v,Vc j (xd D)=v+1:=⟨Vc j (xd D)-1,by omega⟩
    rw[hv]at eZ;have hp:l8 tag=0:=by cases tag<;>first|rfl|exact h1.elim
    have Da:WgAt ty Wg w (((v:Nat)+1)*KK+((1:Nat):Int)) 0:=by simpa using eZ
    obtain⟨g',hgo,hl,hq⟩:=fH v 1 (by omega) (by omega) Da;by_cases NZ:v=0
    ·subst NZ;obtain⟨m₂,hk⟩:=hl ⟨rfl,rfl⟩;refine book hgo (aK w (stA Wg) _) (eZ.setSt _) bk2 OX (.d2 hk) rfl (by omega) (by omega) ?_ (.inl ⟨by omega,by simp[cnt]⟩);have iK:∀a,a<j->a≠i->(xd D a).stage=1:=λa ha e=>by
      have c0:=others_uncounted hi hv jW a ha e;have:=h2 a ha;simp only[cnt]at c0;split at c0<;>omega
     have:=Mo.last (j:=j) (D:=upd (xd D) i ⟨4,m₂,1⟩) (tag:=tag) i h1 hi (by rw[am];simp) (λa ha e=>by rw[aA (xd D) _ e];exact iK a ha e);rw[am]at this;simpa using this
    ·obtain⟨q,hq⟩:=hq (by omega);have Kr:Vc j (upd (xd D) i ⟨1,q,1⟩)=v:=by have:=Vc_upd (xd D) (⟨1,q,1⟩:WD) hi;have:=Wl q;omega
     refine book hgo (aK w (stA Wg) _) (eZ.setSt _) bk2 OX (.quit hq) rfl (by omega) (by omega) ?_ (.inl ⟨by omega,by simp[cnt]⟩);have e:((v:Nat):Int)*KK+((1:Nat):Int)=((Vc j (upd (xd D) i ⟨1,q,1⟩):Nat):Int)*KK+1:=by rw[Kr];simp
     rw[e];exact .reg h1 (Vd q h2) (by omega)
   |last L _ h2 h3 h4=>
    by_cases e:i=L
    ·subst e;omega
    ·have:=h4 i hi e;omega
   |sema _ h2=>have:=h2 i hi;omega
   |fin _ h2=>have:=h2 i hi;omega
  ·obtain⟨g',w',es,hgo,⟨rfl,rfl⟩,gF⟩:=dn w (bo w);exact idle hgo (.d1 gF) rfl (by omega)
 |d2 h=>
  rcases aC h with eH|⟨m',rfl,dn⟩
  ·obtain⟨_,hx⟩:=eH w (bo w);obtain⟨zV,iK,rfl,rfl⟩:=dK.isLast hi (by omega);simp only[xR]at eZ;obtain⟨g',hgo,m₂,hk⟩:=hx (by simpa using eZ);refine book hgo (.refl Wg w) eZ (by intro e he;simp at he;subst he;exact bk_cell _ _ rfl) (by intro jx e he;match jx,he with|0,_=>exact .inr (by simp[az])|jx+1,he=>simp at he) (.d3 hk) rfl (by omega) (by omega) ?_ (.inl ⟨by omega,by simp[cnt]⟩);have:=Mo.last (j:=j) (D:=upd (xd D) i ⟨3,m₂,1⟩) (tag:=tag) i zV hi (by rw[am];simp) (λa ha e=>by rw[aA (xd D) _ e];exact iK a ha e);rw[am]at this;simpa using this
  ·obtain⟨g',w',es,hgo,⟨rfl,rfl⟩,gF⟩:=dn w (bo w);exact idle hgo (.d2 gF) rfl (by omega)
 |d3 h=>
  rcases aC h with eH|⟨m',rfl,dn⟩
  ·obtain⟨_,hx⟩:=eH w (bo w);obtain⟨zV,iK,rfl,rfl⟩:=dK.isLast hi (by omega);simp only[xR]at eZ;obtain⟨g',hgo,m₂,hk⟩:=hx (by simpa using eZ);refine book hgo (aK w (stA Wg) _) (eZ.setSt 0) (by intro e he;simp at he;subst he;exact bk_cell _ _ rfl) (by intro jx e he;match jx,he with|0,_=>exact .inr (by simp[az])|jx+1,he=>simp at he) (.d4 hk) rfl (by omega) (by omega) ?_ (.inl ⟨by omega,by simp[cnt]⟩);have:=Mo.last (j:=j) (D:=upd (xd D) i ⟨2,m₂,1⟩) (tag:=tag) i zV hi (by rw[am];simp) (λa ha e=>by rw[aA (xd D) _ e];exact iK a ha e);rw[am]at this;simpa using this
  ·obtain⟨g',w',es,hgo,⟨rfl,rfl⟩,gF⟩:=dn w (bo w);exact idle hgo (.d3 gF) rfl (by omega)
 |d4 h=>
  rcases aC h with eH|⟨m',rfl,dn⟩
  ·obtain⟨_,hmw,hx⟩:=eH w (bo w);obtain⟨zV,iK,rfl,rfl⟩:=dK.isLast hi (by omega);simp only[xR]at eZ;obtain⟨g',hgo,q,hq⟩:=hx (by simpa using eZ);have sS:g'.status=.running:=by
    cases q with
    |zero=>exact absurd hq.2 (by decide)
    |succ q=>exact hq.elim (λx=>absurd x.2 (by decide)) (λx=>x.1)
   refine BP hgo (aK w (smA Wg) _) (eZ.setSm 1) (es:=semEvents (smA Wg)) bk_sem ?_ (.quit hq) (by simp[az,semEvents]) (by omega) (by omega) ?_ (.inl ⟨by omega,by simp[cnt]⟩)
   ·intro jx e he;match jx,he with
    |0,he=>simp[semEvents]at he;subst he;exact .inl rfl
    |1,_=>exact .inr (by simp[az,semEvents])
    |2,_=>exact .inr (by simp[az,semEvents])
    |3,he=>simp[semEvents]at he;subst he;exact .inl rfl
    |jx+4,he=>simp[semEvents]at he
   ·intro tag' ht hw;have oz:=hw hmw sS;have e3:tag'=.sm\/tag'=.ws:=by
     rcases ht with rfl|⟨_,rfl⟩
     ·cases tag'<;>first|exact .inl rfl|exact .inr rfl|exact zV.elim|exact absurd rfl oz
     ·exact .inl rfl
    have Df:AllQuit j (upd (xd D) i ⟨1,q,1⟩):=λa ha=>by
     by_cases e:a=i
     ·subst e;rw[am]
     ·rw[aA (xd D) _ e];exact iK a ha e
    simp only[if_true];exact .sema e3.symm Df
  ·obtain⟨g',w',es,hgo,⟨rfl,rfl⟩,gF⟩:=dn w (bo w);exact idle hgo (.d4 gF) rfl (by omega)
 |quit h=>
  cases m with
  |zero=>rw[h.1]at eG;cases eG
  |succ q=>
   rcases h with⟨hf,_⟩|⟨_,g',es,BN,dn,hq⟩
   ·rw[hf]at eG;cases eG
   ·have Bw:∀e∈es,Bk Wg e:=λe he=>bk_of_mute (BN e he);have fF:∀jx e,es[jx]?=some e->(ai e).touch?=none\/0<az dd (es.extract 0 jx):=λjx e he=>.inl (touch_mute (BN e (bk he)));exact book (dn w) (.refl Wg w) eZ Bw fF (.quit hq) rfl (by omega) (by omega) (by have:=dK.same (i:=i) q (az dd es);rwa [xR]at this) (.inr ⟨rfl,rfl⟩)
end
end
section
open Go Go.Conc Go.ConcN Sim
open Go.ConcN.Gen (ev0_said_read ev0_said_write)
open Go.ConcR (KK WgAt stA smA rd wr mk Payload DC0 g_of_ofEvents Bk bk_of_mute ofEvent_loc_mark ofEvent_cell)
theorem MLt.lt1 {N:Nat} {a b c:Mea} (h:MLt N a b) (k:b.1<c.1):MLt N a c:=by
 obtain⟨a1,a2⟩:=a;obtain⟨b1,b2⟩:=b;obtain⟨c1,c2⟩:=c;simp only at k;rcases Prod.lex_def.1 h with h|⟨h,_⟩
 ·simp only at h;exact bj _ _ (by omega)
 ·simp only at h;exact bj _ _ (by omega)
section
variable [Payload] (P:ay) (ty:aL) (o Wg C n:Nat) (SB:Blocks) (ja:Nat->Blocks->aM->ag->Prop) (K:aa->ag->Prop) (L0:Nat) (w0:ag)
def Out (gs:Array aa) (w:ag) (sl:Option (Nat×Nat)) (t:aF) (k:Nat) (μ:Mea):Prop:=
 ∃m₁ ops μ',runT P (crowd gs w sl) k=(.next m₁,ops)/\MLt (n+1) μ' μ/\sZ P ty o Wg C n SB ja K L0 w0 μ' m₁ (t++ops)
end
section
variable {j:Nat} {D:Nat->WD} {tag tag':Tag} {st sm:Int}
theorem Mo.reopen (hm:Mo j D tag st sm) (h:Je tag) (h':Je tag') (hp:l8 tag'=l8 tag) (hw:∀vs,tag'=.cs vs->Vc j D<=vs/\1<=vs):Mo j D tag' st sm:=by
 cases hm with
 |opn _ h2 _=>rw[<-hp];exact .opn h' h2 hw
 |reg h1 _ _=>cases tag<;>first|exact h.elim|exact h1.elim
 |last L h1 _ _ _=>cases tag<;>first|exact h.elim|exact h1.elim
 |sema h1 _=>rcases h1 with rfl|rfl<;>exact h.elim
 |fin h1 _=>cases tag<;>first|exact h.elim|exact h1.elim
theorem Mo.open_inv (hm:Mo j D tag st sm) (h:Je tag):OpenSt j D/\st=((Vc j D+l8 tag:Nat):Int)*KK/\sm=0/\∀vs,tag=.cs vs->Vc j D<=vs/\1<=vs:=by
 cases hm with
 |opn _ h2 h3=>exact⟨h2,rfl,rfl,h3⟩
 |reg h1 _ _=>cases tag<;>first|exact h.elim|exact h1.elim
 |last L h1 _ _ _=>cases tag<;>first|exact h.elim|exact h1.elim
 |sema h1 _=>rcases h1 with rfl|rfl<;>exact h.elim
 |fin h1 _=>cases tag<;>first|exact h.elim|exact h1.elim
theorem Mo.fin_inv (hm:Mo j D tag st sm) (h:UM tag):AllQuit j D/\st=0/\sm=0:=by
 cases hm with
 |opn h1 _ _=>cases tag<;>first|exact h.elim|exact h1.elim
 |reg h1 _ _=>cases tag<;>first|exact h.elim|exact h1.elim
 |last L h1 _ _ _=>cases tag<;>first|exact h.elim|exact h1.elim
 |sema h1 _=>rcases h1 with rfl|rfl<;>exact h.elim
 |fin _ h2=>exact⟨h2,rfl,rfl⟩
end
section
variable [Payload] {P:ay} {ty:aL} {o Wg C n:Nat} {SB:Blocks} {ja:Nat->Blocks->aM->ag->Prop} {K:aa->ag->Prop} {L0:Nat} {w0:ag} {gs:Array aa} {w w':ag} {sl:Option (Nat×Nat)} {j:Nat} {D:Nat->WX} {q:Nat->Nat} {tag tag':Tag} {f0 f' d0:Nat} {rk BU:Rank} {FM OM xQ xO:Blocks} {a a':aa} {t:aF} {st sm st' sm':Int} {es:Array bp}
omit [Payload] in
theorem Sep.none (S:Sep Wg C SB j D FM OM w):Sep Wg C SB j D FM (λ_=>False) w:=⟨S.wF,S.wO,S.apart,S.mF,λ_ h=>h.elim,S.lW,S.lC,S.lS,S.hCW,S.sW,S.sC⟩
omit [Payload] in
theorem Sep.size (S:Sep Wg C SB j D FM OM w) (h:w.heap.size<=w'.heap.size):Sep Wg C SB j D FM OM w':=
 ⟨λi hi b hb=>let x:=S.wF i hi b hb;⟨xll x.1 h,x.2⟩,S.wO,S.apart,λb hb=>let x:=S.mF b hb;⟨xll x.1 h,x.2⟩,S.mO,xll S.lW h,xll S.lC h,λb hb=>xll (S.lS b hb) h,S.hCW,S.sW,S.sC⟩
omit [Payload] in
theorem Kept.none (h:Kept Wg C L0 w0 j D OM w):Kept Wg C L0 w0 j D (λ_=>False) w:=⟨h.keep,h.lW,h.lC,h.lO,λ_ h=>h.elim,h.tape,h.os,h.output,h.nb⟩
omit [Payload] in
theorem Kept.wg (h:Kept Wg C L0 w0 j D OM w) (hA:Aside Wg w w') (hg:WgAt ty Wg w' st' sm'):Kept Wg C L0 w0 j D OM w':=
 ⟨λb hb=>(hA.block b (by have:=h.lW;omega)).trans (h.keep b hb),h.lW,h.lC,h.lO,h.lM,hA.tape.trans h.tape,hA.os.trans h.os,hA.output.trans h.output,λx=>JH hA.block ⟨_,_,_,hg⟩ (h.nb x)⟩
omit [Payload] in
theorem Uq {pos:String} (h:∀e∈es,∀y,(ai e).touch?=some y->∃b,y.loc=.cell b/\b.block=Wg/\y.kind≠.plain):∀op∈aw 0 fn pos es,Ok0 (ShP Wg SB) (qK o C j D) (RdD o j D) (o-1+j) op:=by
 intro op dW;obtain⟨e,he,rfl⟩:=aj dW;refine⟨rfl,λy hy=>?_⟩;obtain⟨b,h1,h2,h3⟩:=h e he y hy;exact .inl ⟨h1▸⟨b,rfl,.inr h2⟩,h3⟩
omit [Payload] in
theorem uM (h:∀e∈es,Bk Wg e):∀e∈es,∀y,(ai e).touch?=some y->∃b,y.loc=.cell b/\b.block=Wg/\y.kind≠.plain:=by
 intro e he y hy;rcases h e he with h1|h1|⟨b,wr,rfl,hb⟩
 ·rw[ofEvent_loc_mark h1]at hy;cases hy
 ·rw[ofEvent_loc_mark h1]at hy;cases hy
 ·rw[ofEvent_cell]at hy;simp only[aO,aD]at hy;subst hy;exact⟨b,rfl,hb,by simp⟩
theorem oM (jg:∀i F v w w1,ja i F v w->Ext F w w1->ja i F v w1) (ha:gs[0]?=some a) (dP:iC P ty o Wg C n SB ja j gs w t D q d0) (S:Sep Wg C SB j D FM OM w) (eY:Kept Wg C L0 w0 j D OM w)
  (hgo:ax P true a w=.go a' w' es) (o6:Aside Wg w w') (iy:WgAt ty Wg w' st' sm') (GY:∀e∈es,∀y,(ai e).touch?=some y->∃b,y.loc=.cell b/\b.block=Wg/\y.kind≠.plain) (zM:∀e∈es,e.loc≠.mark (.release (stA Wg)))
  (vD:MS P ty Wg C n ja K tag' f' (az d0 es) .leaf FM (λ_=>False) a' w') (mP:Mo j (xd D) tag' st' sm') (fu:JT n tag' j)
  (dY:psi n (Vc j (xd D)) tag'<psi n (Vc j (xd D)) tag\/(psi n (Vc j (xd D)) tag'=psi n (Vc j (xd D)) tag/\rk=.leaf/\f'<f0)):
  Out P ty o Wg C n SB ja K L0 w0 gs w sl t 0 (psi n (Vc j (xd D)) tag+iP j D,ranks n D rk,f0+2*kK j D+2*sumTo o q):=by
 obtain⟨cs,jW,mD⟩:=dP.pay;have eU:w.heap.size<=w'.heap.size:=by rw[o6.size];exact ji _
 have lW:=S.lW;refine callerStep jg ha dP S hgo vD (S.none.size eU) (λi hi=>⟨⟨eU,λb hb=>o6.block b (S.wF i hi b hb).2.1⟩,RW.of_wg o6 ⟨_,_,iy⟩ S.hCW⟩) eU (Uq GY)
  (λe he y hy=>by obtain⟨b,h1,_⟩:=GY e he y hy;rw[h1];rfl) zM (λe he y hy=>by obtain⟨b,h1,h2,_⟩:=GY e he y hy;rw[h1];show b.block<_;omega) ⟨cs,(o6.block C S.hCW).trans jW,mD⟩ iy mP fu (eY.none.wg o6 iy) ?_
 rcases dY with h|⟨h1,h2,h3⟩
 ·exact .inl h
 ·exact .inr (.inr ⟨h1,h2.symm,h3⟩)
theorem tC (jg:∀i F v w w1,ja i F v w->Ext F w w1->ja i F v w1) (ha:gs[0]?=some a) (dP:iC P ty o Wg C n SB ja j gs w t D q d0) (S:Sep Wg C SB j D FM OM w) (eY:Kept Wg C L0 w0 j D OM w)
  (eZ:WgAt ty Wg w st sm) (dK:Mo j (xd D) tag st sm) (fu:JT n tag j)
  (hgo:ax P true a w=.go a' w' es) (hD:DC0 w w' es) (vD:MS P ty Wg C n ja K tag f' d0 .leaf FM (λ_=>False) a' w') (hf:f'<f0):
  Out P ty o Wg C n SB ja K L0 w0 gs w sl t 0 (psi n (Vc j (xd D)) tag+iP j D,ranks n D .leaf,f0+2*kK j D+2*sumTo o q):=by
 obtain⟨rfl,rfl⟩:=hD;exact oM jg ha dP S eY hgo (.refl Wg _) eZ (by simp) (by simp) vD dK fu (.inr ⟨rfl,rfl,hf⟩)
omit [Payload] in
theorem uE (h:∀e∈es,Bk Wg e):∀e∈es,e.loc≠.mark (.release (stA Wg)):=λe he=>(norel_of_Bk h) e he
omit [Payload] in
theorem Tz {m:Mark} (hm:m=.read (smA Wg)\/m=.write (smA Wg)):∀e∈#[mk m],∀y,(ai e).touch?=some y->∃b,y.loc=.cell b/\b.block=Wg/\y.kind≠.plain:=by
 intro e he y hy;simp only[bg,bh]at he;subst he;rcases hm with rfl|rfl<;>
  (simp only[mk,ai,aO,aD]at hy
   subst hy
   exact⟨smA Wg,rfl,rfl,by simp⟩)
omit [Payload] in
theorem Nn {m:Mark} (hm:m≠.release (stA Wg)):∀e∈#[mk m],e.loc≠.mark (.release (stA Wg)):=by
 intro e he;simp only[bg,bh]at he;subst he;intro h;simp only[mk,Loc.mark.injEq]at h;exact hm h
section
variable (jg:∀i F v w w1,ja i F v w->Ext F w w1->ja i F v w1) (hn:n<2147483648) (ha:gs[0]?=some a) (eY:Kept Wg C L0 w0 j D OM w) (S:Sep Wg C SB j D FM OM w) (eZ:WgAt ty Wg w st sm)
include jg hn ha eY S eZ
omit hn in
theorem Rx (dP:iC P ty o Wg C n SB ja j gs w t D q 0) (dK:Mo j (xd D) (.kdS r) st sm) (fu:JT n (.kdS r) j) (hr:r<n)
  (h:Goes P true (RM ty Wg FM) DC0 (iU P .disable (MG P ty Wg FM (vJ P ty Wg FM (MG P ty Wg FM (AtGoM P ty Wg C n ja (n-(r+1)) FM λg' w=>WG P true (Scr P ty Wg C n ja K r) FM (λ_=>False) g' w))))) f0 a w):
  Out P ty o Wg C n SB ja K L0 w0 gs w sl t 0 (psi n (Vc j (xd D)) (.kdS r)+iP j D,ranks n D .leaf,f0+2*kK j D+2*sumTo o q):=by
 rcases aC h with eH|⟨m',rfl,dn⟩
 ·obtain⟨_,a',hgo,m₂,hk⟩:=eH w (jr w);exact oM (tag':=.ad r) jg ha dP S eY hgo (.refl Wg _) eZ (uM bk_dis) (uE bk_dis) (.ad hr hk) (dK.reopen trivial trivial rfl (by simp)) fu (.inl (by simp only[psi];omega))
 ·obtain⟨a',w',es,hgo,hD,gF⟩:=dn w (jr w);exact tC jg ha dP S eY eZ dK fu hgo hD (.kdS hr gF) (by omega)
theorem jcf (dP:iC P ty o Wg C n SB ja j gs w t D q 1) (dK:Mo j (xd D) (.ad r) st sm) (fu:JT n (.ad r) j) (hr:r<n)
  (h:Goes P true (RM ty Wg FM) DC0 (vJ P ty Wg FM (MG P ty Wg FM (AtGoM P ty Wg C n ja (n-(r+1)) FM λg' w=>WG P true (Scr P ty Wg C n ja K r) FM (λ_=>False) g' w))) f0 a w):
  Out P ty o Wg C n SB ja K L0 w0 gs w sl t 0 (psi n (Vc j (xd D)) (.ad r)+iP j D,ranks n D .leaf,f0+2*kK j D+2*sumTo o q):=by
 have KI:=Vc_le j (xd D);have He:=fu.le;rcases aC h with eH|⟨m',rfl,dn⟩
 ·obtain⟨_,fH⟩:=eH w (jr w);obtain⟨ho,rfl,rfl,_⟩:=dK.open_inv trivial;have Dl:j+r+1=n:=fu;obtain⟨a',hgo,hk⟩:=fH (Vc j (xd D)) (by omega) (by simpa[l8]using eZ);rcases hk with⟨_,m₂,hk⟩|⟨_,m₂,hk⟩
  ·refine oM (tag':=.rs r) jg ha dP S eY hgo (aK w (stA Wg) _) (eZ.setSt _) (uM bk_rw) (uE bk_rw) (.rs hr hk) ?_ fu (.inl (by simp only[psi];omega));have e:(((Vc j (xd D):Nat):Int)+1)*KK=((Vc j (xd D)+l8 (.rs r):Nat):Int)*KK:=by simp[l8]
   rw[e];exact .opn trivial ho (by simp)
  ·refine oM (tag':=.en r) jg ha dP S eY hgo (aK w (stA Wg) _) (eZ.setSt _) (uM bk_rw) (uE bk_rw) (.en hr hk) ?_ fu (.inl (by simp only[psi];omega));have e:(((Vc j (xd D):Nat):Int)+1)*KK=((Vc j (xd D)+l8 (.en r):Nat):Int)*KK:=by simp[l8]
   rw[e];exact .opn trivial ho (by simp)
 ·obtain⟨a',w',es,hgo,hD,gF⟩:=dn w (jr w);exact tC jg ha dP S eY eZ dK fu hgo hD (.ad hr gF) (by omega)
omit hn in
theorem jfb (dP:iC P ty o Wg C n SB ja j gs w t D q 1) (dK:Mo j (xd D) (.rs r) st sm) (fu:JT n (.rs r) j) (hr:r<n)
  (h:Goes P true (RM ty Wg FM) DC0 (iU P (.read (smA Wg)) (MG P ty Wg FM (iU P .enable (MG P ty Wg FM (AtGoM P ty Wg C n ja (n-(r+1)) FM λg' w=>WG P true (Scr P ty Wg C n ja K r) FM (λ_=>False) g' w))))) f0 a w):
  Out P ty o Wg C n SB ja K L0 w0 gs w sl t 0 (psi n (Vc j (xd D)) (.rs r)+iP j D,ranks n D .leaf,f0+2*kK j D+2*sumTo o q):=by
 rcases aC h with eH|⟨m',rfl,dn⟩
 ·obtain⟨_,a',hgo,m₂,hk⟩:=eH w (jr w);exact oM (tag':=.en r) jg ha dP S eY hgo (.refl Wg _) eZ (Tz (.inl rfl)) (Nn (by simp)) (.en hr hk) (dK.reopen trivial trivial rfl (by simp)) fu (.inl (by simp only[psi];omega))
 ·obtain⟨a',w',es,hgo,hD,gF⟩:=dn w (jr w);exact tC jg ha dP S eY eZ dK fu hgo hD (.rs hr gF) (by omega)
omit hn in
theorem jcs (dP:iC P ty o Wg C n SB ja j gs w t D q 1) (dK:Mo j (xd D) (.en r) st sm) (fu:JT n (.en r) j) (hr:r<n)
  (h:Goes P true (RM ty Wg FM) DC0 (iU P .enable (MG P ty Wg FM (AtGoM P ty Wg C n ja (n-(r+1)) FM λg' w=>WG P true (Scr P ty Wg C n ja K r) FM (λ_=>False) g' w))) f0 a w):
  Out P ty o Wg C n SB ja K L0 w0 gs w sl t 0 (psi n (Vc j (xd D)) (.en r)+iP j D,ranks n D .leaf,f0+2*kK j D+2*sumTo o q):=by
 rcases aC h with eH|⟨m',rfl,dn⟩
 ·obtain⟨_,a',hgo,m₂,hk⟩:=eH w (jr w);exact oM (tag':=.gos r) jg ha dP S eY hgo (.refl Wg _) eZ (uM bk_en) (uE bk_en) (.gos hr hk) (dK.reopen trivial trivial rfl (by simp)) fu (.inl (by simp only[psi];omega))
 ·obtain⟨a',w',es,hgo,hD,gF⟩:=dn w (jr w);exact tC jg ha dP S eY eZ dK fu hgo hD (.en hr gF) (by omega)
omit hn in
theorem UL (ug:∀g w,A g w->g.status=.running) (qH:∀g w,A g w->MG P ty Wg FM (qB P ty Wg FM A K) g w) (dP:iC P ty o Wg C n SB ja j gs w t D q 0) (dK:Mo j (xd D) .kd st sm) (fu:JT n .kd j)
  (h:Goes P true (RM ty Wg FM) DC0 (iU P .disable (MG P ty Wg FM A)) f0 a w):
  Out P ty o Wg C n SB ja K L0 w0 gs w sl t 0 (psi n (Vc j (xd D)) .kd+iP j D,ranks n D .leaf,f0+2*kK j D+2*sumTo o q):=by
 have KI:=Vc_le j (xd D);have He:=fu.le;rcases aC h with eH|⟨m',rfl,dn⟩
 ·obtain⟨_,a',hgo,m₂,hk⟩:=eH w (jr w);exact oM (tag':=.anch) jg ha dP S eY hgo (.refl Wg _) eZ (uM bk_dis) (uE bk_dis) (.anch ug qH hk) (dK.reopen trivial trivial rfl (by simp)) fu (.inl (by simp only[psi];omega))
 ·obtain⟨a',w',es,hgo,hD,gF⟩:=dn w (jr w);exact tC jg ha dP S eY eZ dK fu hgo hD (.kd ug qH gF) (by omega)
theorem UG (ug:∀g w,A g w->g.status=.running) (qH:∀g w,A g w->MG P ty Wg FM (qB P ty Wg FM A K) g w) (dP:iC P ty o Wg C n SB ja j gs w t D q 1) (dK:Mo j (xd D) .ld st sm) (fu:JT n .ld j)
  (h:Goes P true (RM ty Wg FM) DC0 (qB P ty Wg FM A K) f0 a w):
  Out P ty o Wg C n SB ja K L0 w0 gs w sl t 0 (psi n (Vc j (xd D)) .ld+iP j D,ranks n D .leaf,f0+2*kK j D+2*sumTo o q):=by
 have KI:=Vc_le j (xd D);have He:=fu.le;rcases aC h with eH|⟨m',rfl,dn⟩
 ·obtain⟨_,fH⟩:=eH w (jr w);obtain⟨ho,rfl,rfl,_⟩:=dK.open_inv trivial;obtain⟨a',hgo,h0,eB⟩:=fH (Vc j (xd D)) (by omega) (by simpa[l8]using eZ);by_cases hv:Vc j (xd D)=0
  ·obtain⟨m₂,hk⟩:=h0 hv;refine oM (tag':=.en2) jg ha dP S eY hgo (.refl Wg _) eZ (uM bk_rd) (uE bk_rd) (.en2 hk) ?_ fu (.inl (by simp only[psi];omega));have e:((Vc j (xd D)+l8 .ld:Nat):Int)*KK=0:=by rw[hv];simp[l8]
   rw[e];exact .fin trivial (allQuit_of ho hv)
  ·obtain⟨m₂,hk⟩:=eB hv;exact oM (tag':=.cs (Vc j (xd D))) jg ha dP S eY hgo (.refl Wg _) eZ (uM bk_rd) (uE bk_rd) (.cs ug qH hk) (dK.reopen trivial trivial rfl (λvs e=>by cases e;omega)) fu (.inl (by simp only[psi];omega))
 ·obtain⟨a',w',es,hgo,hD,gF⟩:=dn w (jr w);exact tC jg ha dP S eY eZ dK fu hgo hD (.ld ug qH gF) (by omega)
theorem q0b (ug:∀g w,A g w->g.status=.running) (qH:∀g w,A g w->MG P ty Wg FM (qB P ty Wg FM A K) g w) (dP:iC P ty o Wg C n SB ja j gs w t D q 1) (dK:Mo j (xd D) .anch st sm) (fu:JT n .anch j)
  (h:Goes P true (RM ty Wg FM) DC0 A f0 a w):
  Out P ty o Wg C n SB ja K L0 w0 gs w sl t 0 (psi n (Vc j (xd D)) .anch+iP j D,ranks n D .leaf,f0+2*kK j D+2*sumTo o q):=by
 rcases aC h with eH|⟨m',rfl,dn⟩
 ·obtain⟨m₂,hk⟩:=qH a w (eH w (jr w));obtain⟨m₁,ops,μ',h1,h2,h3⟩:=UG (sl:=sl) jg hn ha eY S eZ ug qH dP (dK.reopen trivial trivial rfl (by simp)) fu hk;exact⟨m₁,ops,μ',h1,h2.lt1 (by simp only[psi];omega),h3⟩
 ·obtain⟨a',w',es,hgo,hD,gF⟩:=dn w (jr w);exact tC jg ha dP S eY eZ dK fu hgo hD (.anch ug qH gF) (by omega)
theorem jcn {vs:Nat} (ug:∀g w,A g w->g.status=.running) (qH:∀g w,A g w->MG P ty Wg FM (qB P ty Wg FM A K) g w) (dP:iC P ty o Wg C n SB ja j gs w t D q 1) (dK:Mo j (xd D) (.cs vs) st sm) (fu:JT n (.cs vs) j)
  (h:Goes P true (RM ty Wg FM) DC0 (Cq P ty Wg FM A K vs) f0 a w):
  Out P ty o Wg C n SB ja K L0 w0 gs w sl t 0 (psi n (Vc j (xd D)) (.cs vs)+iP j D,ranks n D .leaf,f0+2*kK j D+2*sumTo o q):=by
 have KI:=Vc_le j (xd D);have He:=fu.le;rcases aC h with eH|⟨m',rfl,dn⟩
 ·obtain⟨_,fH⟩:=eH w (jr w);obtain⟨ho,rfl,rfl,qW⟩:=dK.open_inv trivial;obtain⟨hle,h1⟩:=qW vs rfl;obtain⟨P6,Io⟩:=fH (Vc j (xd D)) (by omega) (by simpa[l8]using eZ);by_cases e:Vc j (xd D)=vs
  ·obtain⟨a',hgo,m₂,hk⟩:=P6 e;exact oM (tag':=.ws) jg ha dP S eY hgo (aK w (stA Wg) _) (eZ.setSt _) (uM bk_rw) (uE bk_rw) (.ws hk) (.reg trivial ho (by omega)) fu (.inl (by simp only[psi];omega))
  ·obtain⟨a',hgo,m₂,hk⟩:=Io e;exact oM (tag':=.anch) jg ha dP S eY hgo (.refl Wg _) eZ (uM bk_rd) (uE bk_rd) (.anch ug qH hk) (dK.reopen trivial trivial rfl (by simp)) fu (.inl (by simp only[psi];omega))
 ·obtain⟨a',w',es,hgo,hD,gF⟩:=dn w (jr w);exact tC jg ha dP S eY eZ dK fu hgo hD (.cs ug qH gF) (by omega)
omit hn in
theorem jfx (dP:iC P ty o Wg C n SB ja j gs w t D q 1) (dK:Mo j (xd D) .ws st sm) (fu:JT n .ws j)
  (h:Goes P true (RM ty Wg FM) DC0 (iU P (.write (smA Wg)) (MG P ty Wg FM (wQ P ty Wg FM K))) f0 a w):
  Out P ty o Wg C n SB ja K L0 w0 gs w sl t 0 (psi n (Vc j (xd D)) .ws+iP j D,ranks n D .leaf,f0+2*kK j D+2*sumTo o q):=by
 rcases aC h with eH|⟨m',rfl,dn⟩
 ·obtain⟨_,a',hgo,m₂,hk⟩:=eH w (jr w);refine oM (tag':=.sm) jg ha dP S eY hgo (.refl Wg _) eZ (Tz (.inr rfl)) (Nn (by simp)) (.sm hk) ?_ fu (.inl (by simp only[psi];omega));cases dK with
  |opn h1 _ _=>exact h1.elim
  |reg h1 h2 h3=>exact .reg trivial h2 h3
  |last L h1 h2 h3 h4=>exact .last L trivial h2 h3 h4
  |sema h1 h2=>exact .sema (.inr rfl) h2
  |fin h1 _=>exact h1.elim
 ·obtain⟨a',w',es,hgo,hD,gF⟩:=dn w (jr w);exact tC jg ha dP S eY eZ dK fu hgo hD (.ws gF) (by omega)
end
end
end
section
open Go Go.Conc Go.ConcN Sim
open Go.ConcR (KK WgAt stA smA rd wr mk Payload DC0 g_of_ofEvents Bk bk_of_mute ofEvent_loc_mark ofEvent_cell)
section
variable [Payload] {P:ay} {ty:aL} {o Wg C n:Nat} {SB:Blocks} {ja:Nat->Blocks->aM->ag->Prop} {K:aa->ag->Prop} {L0:Nat} {w0:ag} {gs:Array aa} {w w':ag} {sl:Option (Nat×Nat)} {j:Nat} {D:Nat->WX} {q:Nat->Nat} {tag tag':Tag} {f0 f' d0:Nat} {rk BU:Rank} {FM OM xQ xO:Blocks} {a a':aa} {t:aF} {st sm st' sm':Int} {es:Array bp}
variable (jg:∀i F v w w1,ja i F v w->Ext F w w1->ja i F v w1) (ha:gs[0]?=some a) (eY:Kept Wg C L0 w0 j D OM w) (S:Sep Wg C SB j D FM OM w) (eZ:WgAt ty Wg w st sm)
include jg ha eY S eZ
theorem jfi (dP:iC P ty o Wg C n SB ja j gs w t D q 1) (dK:Mo j (xd D) .sm st sm) (fu:JT n .sm j)
  (h:Goes P true (RM ty Wg FM) DC0 (wQ P ty Wg FM K) f0 a w):
  Out P ty o Wg C n SB ja K L0 w0 gs w sl t 0 (psi n (Vc j (xd D)) .sm+iP j D,ranks n D .leaf,(f0+1)+2*kK j D+2*sumTo o q):=by
 rcases aC h with eH|⟨m',rfl,dn⟩
 ·obtain⟨_,hoff,hblk,pQ⟩:=eH w (jr w);have nil:∀e∈(#[]:Array bp),∀y,(ai e).touch?=some y->∃b,y.loc=.cell b/\b.block=Wg/\y.kind≠.plain:=by simp
  cases dK with
  |opn h1 _ _=>exact h1.elim
  |reg h1 h2 h3=>exact oM (tag':=.blk) (f':=0) jg ha dP S eY (hblk ⟨_,eZ⟩) (.refl Wg w) eZ nil (by simp) (.blk eH) (.reg trivial h2 h3) fu (.inr ⟨rfl,rfl,by omega⟩)
  |last L h1 h2 h3 h4=>exact oM (tag':=.blk) (f':=0) jg ha dP S eY (hblk ⟨_,eZ⟩) (.refl Wg w) eZ nil (by simp) (.blk eH) (.last L trivial h2 h3 h4) fu (.inr ⟨rfl,rfl,by omega⟩)
  |sema h1 h2=>
   obtain⟨a',hgo,m₂,hk⟩:=pQ eZ;exact oM (tag':=.l2) jg ha dP S eY hgo (aK w (smA Wg) _) (eZ.setSm 0) (uM bk_sem) (uE bk_sem) (.l2 hk) (.fin trivial h2) fu (.inl (by simp only[psi];omega))
  |fin h1 _=>exact h1.elim
 ·obtain⟨a',w',es,hgo,hD,gF⟩:=dn w (jr w);obtain⟨rfl,rfl⟩:=hD;exact oM (tag':=.sm) (f':=m'+1) jg ha dP S eY hgo (.refl Wg _) eZ (by simp) (by simp) (.sm gF) dK fu (.inr ⟨rfl,rfl,by omega⟩)
theorem jdg (dP:iC P ty o Wg C n SB ja j gs w t D q 1) (dK:Mo j (xd D) .l2 st sm) (fu:JT n .l2 j)
  (h:Goes P true (RM ty Wg FM) DC0 (Cn P ty Wg FM K) f0 a w):
  Out P ty o Wg C n SB ja K L0 w0 gs w sl t 0 (psi n (Vc j (xd D)) .l2+iP j D,ranks n D .leaf,f0+2*kK j D+2*sumTo o q):=by
 rcases aC h with eH|⟨m',rfl,dn⟩
 ·obtain⟨_,hx⟩:=eH w (jr w);obtain⟨hq,rfl,rfl⟩:=dK.fin_inv trivial;obtain⟨a',hgo,m₂,hk⟩:=hx eZ;exact oM (tag':=.en2) jg ha dP S eY hgo (.refl Wg _) eZ (uM bk_rd) (uE bk_rd) (.en2 hk) (.fin trivial hq) fu (.inl (by simp only[psi];omega))
 ·obtain⟨a',w',es,hgo,hD,gF⟩:=dn w (jr w);exact tC jg ha dP S eY eZ dK fu hgo hD (.l2 gF) (by omega)
theorem q57 (dP:iC P ty o Wg C n SB ja j gs w t D q 1) (dK:Mo j (xd D) .en2 st sm) (fu:JT n .en2 j)
  (h:Goes P true (RM ty Wg FM) DC0 (iU P .enable (MG P ty Wg FM (iU P (.acquire (stA Wg)) K))) f0 a w):
  Out P ty o Wg C n SB ja K L0 w0 gs w sl t 0 (psi n (Vc j (xd D)) .en2+iP j D,ranks n D .leaf,f0+2*kK j D+2*sumTo o q):=by
 rcases aC h with eH|⟨m',rfl,dn⟩
 ·obtain⟨_,a',hgo,m₂,hk⟩:=eH w (jr w);obtain⟨hq,rfl,rfl⟩:=dK.fin_inv trivial;exact oM (tag':=.acq) jg ha dP S eY hgo (.refl Wg _) eZ (uM bk_en) (uE bk_en) (.acq hk) (.fin trivial hq) fu (.inl (by simp only[psi];omega))
 ·obtain⟨a',w',es,hgo,hD,gF⟩:=dn w (jr w);exact tC jg ha dP S eY eZ dK fu hgo hD (.en2 gF) (by omega)
theorem jc1 (dP:iC P ty o Wg C n SB ja j gs w t D q 0) (dK:Mo j (xd D) (.gos r) st sm) (fu:JT n (.gos r) j) (hr:r<n)
  (h:Goes P true (RM ty Wg FM) DC0 (AtGoM P ty Wg C n ja (n-(r+1)) FM λg' w=>WG P true (Scr P ty Wg C n ja K r) FM (λ_=>False) g' w) f0 a w):
  Out P ty o Wg C n SB ja K L0 w0 gs w sl t 0 (psi n (Vc j (xd D)) (.gos r)+iP j D,ranks n D .leaf,f0+2*kK j D+2*sumTo o q):=by
 rcases aC h with eH|⟨m',rfl,dn⟩
 ·obtain⟨_,a',child,Bj,hcr,Ij,XZ,sU⟩:=eH w (jr w);have Dl:j+r+1=n:=fu;have ej:n-(r+1)=j:=by omega
  rw[ej]at Ij;obtain⟨F,hF,Ll,Ko⟩:=Ij dP.pay;obtain⟨ho,rfl,rfl,_⟩:=dK.open_inv trivial;have dW:=dP.vB
  let x:WX:=⟨9,0,0,Ll,F,λ_=>False,.bool false⟩
  have S':Sep Wg C SB (j+1) (upd D j x) FM (λ_=>False) w:=by
   refine⟨λi hi b hb=>?_,λi hi b hb=>?_,λi1 i2 h1 h2 eB b hb fJ=>?_,λb hb=>?_,λ_ h=>h.elim,S.lW,S.lC,S.lS,S.hCW,S.sW,S.sC⟩
   ·by_cases e:i=j
    ·subst e;rw[am]at hb;have:=S.mF b (hF b hb);exact⟨this.1,this.2.1,this.2.2.1,this.2.2.2.1⟩
    ·rw[aA D _ e]at hb;exact S.wF i (by omega) b hb
   ·by_cases e:i=j
    ·subst e;rw[am]at hb;exact hb.elim
    ·rw[aA D _ e]at hb⊢;exact S.wO i (by omega) b hb
   ·by_cases e:i1=j
    ·subst e;rw[am]at hb;exact hb.elim
    ·rw[aA D _ e]at hb;by_cases e2:i2=j
     ·subst e2;rw[am]at fJ;exact(S.mF b (hF b fJ)).2.2.2.2 i1 (by omega) hb
     ·rw[aA D _ e2]at fJ;exact S.apart i1 i2 (by omega) (by omega) eB b hb fJ
   ·have:=S.mF b hb;refine⟨this.1,this.2.1,this.2.2.1,this.2.2.2.1,λi hi hO=>?_⟩;by_cases e:i=j
    ·subst e;rw[am]at hO;exact hO.elim
    ·rw[aA D _ e]at hO;exact this.2.2.2.2 i (by omega) hO
  have sS:=runT_crowd_spawn (P:=P) (sl:=sl) (i:=0) ha (by simpa using Bj);rw[dP.size]at sS;have gT:=dP.spawn S' (a':=a') (child:=child) rfl rfl (.own (by rw[show(9:Nat)=9 from rfl]) rfl rfl Ko) (fn:=a.frame.fn) (pos:=a.frame.place) (fn':=child.frame.fn) (pos':=a.frame.place);have ex:xd (upd D j x)=upd (xd D) j ⟨7,0,0⟩:=by rw[I4];rfl
  have eV:Vc (j+1) (xd (upd D j x))=Vc j (xd D)+1:=by
   rw[ex];simp only[Vc,sumTo,am];rw[sumTo_upd_out (xd D) _ cnt (ji _)];rfl
  have eS:iP (j+1) (upd D j x)=iP j D+9:=by
   simp only[iP,sumTo,am];rw[sumTo_upd_out D _ WX.stage (ji _)]
  have zL:OpenSt (j+1) (xd (upd D j x)):=λi hi=>by
   rw[ex];by_cases e:i=j
   ·subst e;rw[am];simp
   ·rw[aA (xd D) _ e];exact ho i (by omega)
  have ha':((gs.setIfInBounds 0 a').push child)[0]?=some a':=by
   have N7:0<(gs.setIfInBounds 0 a').size:=by simp[dP.size];omega
   rw[bw N7];simp
  have rz:Kept Wg C L0 w0 (j+1) (upd D j x) (λ_=>False) w:=by
   refine⟨eY.keep,eY.lW,eY.lC,λi hi b hb=>?_,λ_ h=>h.elim,eY.tape,eY.os,eY.output,eY.nb⟩;by_cases e:i=j
   ·subst e;rw[am]at hb;exact hb.elim
   ·rw[aA D _ e]at hb;exact eY.lO i (by omega) b hb
  refine⟨_,_,_,sS,?_,_,w,sl,j+1,upd D j x,q,.wg r,0,0,XZ,FM,λ_=>False,a',_,_,rfl,ha',.wg (by omega) sU,?_,S',eZ,?_,(by show j+1+r=n;omega),rz,rfl⟩
  ·refine bj _ _ ?_;rw[eS];simp only[psi];omega
  ·exact gT
  ·have e:((Vc j (xd D)+l8 (.gos r):Nat):Int)*KK=((Vc (j+1) (xd (upd D j x))+l8 (.wg r):Nat):Int)*KK:=by rw[eV];simp[l8]
   rw[e];exact .opn trivial zL (by simp)
 ·obtain⟨a',w',es,hgo,hD,gF⟩:=dn w (jr w);exact tC jg ha dP S eY eZ dK fu hgo hD (.gos hr gF) (by omega)
theorem jfw {f:ag->Rank} (dP:iC P ty o Wg C n SB ja j gs w t D q 0) (dK:Mo j (xd D) (.wg r) st sm) (fu:JT n (.wg r) j) (hr:r<=n)
  (h:WGo P true (Scr P ty Wg C n ja K r) (.node f) FM OM a w):
  Out P ty o Wg C n SB ja K L0 w0 gs w sl t 0 (psi n (Vc j (xd D)) (.wg r)+iP j D,ranks n D (.node f),0+2*kK j D+2*sumTo o q):=by
 obtain⟨xQ,xO,a',w',es,hgo,ok,qX⟩:=h.2 w (Ext.refl ..);have lW:=S.lW;have lC:=S.lC;have nO:∀b,OM b->b≠Wg/\b≠C:=λb hb=>⟨(S.mF b (S.mO b hb).1).2.1,(S.mF b (S.mO b hb).1).2.2.1⟩
 have hW:w'.heap[Wg]?=w.heap[Wg]?:=ok.keep Wg lW λh=>(nO Wg h).1 rfl;have hC:w'.heap[C]?=w.heap[C]?:=ok.keep C lC λh=>(nO C h).2 rfl;have iy:WgAt ty Wg w' st sm:=by unfold WgAt at *; rw[hW];exact eZ
 have eU:=ok.size;have S':Sep Wg C SB j D xQ xO w':=by
  refine⟨λi hi b hb=>let x:=S.wF i hi b hb;⟨xll x.1 eU,x.2⟩,S.wO,S.apart,λb hb=>?_,λb hb=>⟨ok.own b hb,λi hi hf=>?_⟩,xll S.lW eU,xll S.lC eU,λb hb=>xll (S.lS b hb) eU,S.hCW,S.sW,S.sC⟩
  ·refine⟨ok.low b hb,?_⟩;rcases ok.new b hb with h|h
   ·exact(S.mF b h).2
   ·exact⟨by omega,by omega,λhs=>by have:=S.lS b hs;omega,λi hi ho=>by have:=(S.wF i hi b (S.wO i hi b ho)).1;omega⟩
  ·rcases ok.Au b hb with h|h
   ·exact(S.mO b h).2 i hi hf
   ·have:=(S.wF i hi b hf).1;omega
 have vD:MS P ty Wg C n ja K (.wg r) 0 (az 0 es) (f w) xQ xO a' w':=by
  rw[deafBehind_idle (λe he=>⟨(Bc (Wg:=Wg) (ok.ev e he) ok.low).1,(Bc (Wg:=Wg) (ok.ev e he) ok.low).2.1⟩) 0];exact .wg hr qX
 refine callerStep jg ha dP S hgo (tag':=.wg r) (f':=0) vD S'
  (λi hi=>⟨⟨eU,λb hb=>ok.keep b (S.wF i hi b hb).1 λho=>(S.mO b ho).2 i hi hb⟩,QU hW hC⟩) eU (λop dW=>?_) (λe he y hy=>(MV (ok.ev e he) hy).1)
  (λe he=>(Bc (Wg:=Wg) (ok.ev e he) ok.low).2.2.1) (λe he=>CB (Bc (Wg:=Wg) (ok.ev e he) ok.low).2.2.2) ?_ iy dK fu ?_ (.inr (.inl ⟨rfl,⟨w,rfl⟩⟩))
 ·obtain⟨e,he,rfl⟩:=aj dW;refine⟨rfl,λy hy=>.inr ?_⟩;obtain⟨h1,h2,h3,h4⟩:=MV (ok.ev e he) hy;have oz:∀{b:Nat},xQ b->b≠Wg/\b≠C/\¬SB b/\∀i,i<j->¬(D i).O b:=λhb=>(S'.mF _ hb).2;have tQ:∀{B:Blocks} {l:Loc},uF B l->∃b,B b/\((∃a,l=.cell a/\a.block=b)\/l=.obj b):=by
   intro B l hl;cases l with
   |cell a=>exact⟨_,hl,.inl ⟨a,rfl,rfl⟩⟩
   |obj r=>exact⟨_,hl,.inr rfl⟩
   |_=>exact hl.elim
  have same:∀{b b':Nat} {l:Loc},((∃a:Addr,l=.cell a/\a.block=b)\/l=.obj b)->((∃a:Addr,l=.cell a/\a.block=b')\/l=.obj b')->b=b':=by
   intro b b' l h1 h2;rcases h1 with⟨a,rfl,rfl⟩|rfl
   ·rcases h2 with⟨a',e,rfl⟩|e
    ·cases e;rfl
    ·cases e
   ·rcases h2 with⟨a',e,rfl⟩|e
    ·cases e
    ·cases e;rfl
  obtain⟨b,hb,hl⟩:=tQ h3;have fQ:=oz hb;refine⟨?_,λk k1 kj=>?_,λvS k k1 kj=>?_⟩
  ·rintro⟨c,hc,hs⟩;rw[hc]at hl;rcases hl with⟨a1,e,rfl⟩|e
   ·cases e;rcases hs with hs|hs
    ·exact fQ.2.2.1 hs
    ·exact fQ.1 hs
   ·cases e
  ·rintro⟨i,hi,rfl,h5⟩;rcases h5 with h5|h5
   ·obtain⟨b',fJ,oZ⟩:=tQ h5;obtain rfl:=same hl oZ;exact fQ.2.2.2 i hi fJ
   ·rw[h5]at hl;rcases hl with⟨a1,e,rfl⟩|e
    ·cases e;exact fQ.2.1 rfl
    ·cases e
  ·rintro⟨i,hi,rfl,h5⟩;obtain⟨b',⟨fJ,_⟩,oZ⟩:=tQ h5;obtain⟨b3,fO,hl3⟩:=tQ (h4 vS);obtain rfl:=same hl oZ;obtain rfl:=same hl hl3;exact(S'.mO _ fO).2 i hi fJ
 ·obtain⟨cs,h1,h2⟩:=dP.pay;exact⟨cs,by rw[hC];exact h1,h2⟩
 ·refine⟨λb hb=>(ok.keep b (by have:=eY.lW;omega) λho=>by have:=eY.lM b ho;omega).trans (eY.keep b hb),eY.lW,eY.lC,eY.lO,λb hb=>?_,ok.tape.trans eY.tape,ok.os.trans eY.os,ok.output.trans eY.output,λx=>ok.nb (eY.nb x)⟩;rcases ok.Au b hb with h|h
  ·exact eY.lM b h
  ·have:=eY.lW;omega
end
end
section
open Go Go.Conc Go.ConcN Sim
open Go.ConcR (KK WgAt stA smA rd wr mk Payload DC0 g_of_ofEvents Bk bk_of_mute ofEvent_loc_mark ofEvent_cell ofEvent_mk)
section
variable {o Wg C n:Nat} {SB:Blocks} {D:Nat->WX} {w:ag} {t:aF}
theorem qrp (tr:yC o Wg C SB n D w t) (ho:0<o) {q:Nat} (hq:t.act? q=some (.mark (.acquire (stA Wg)))) (hg:t.g? q=some 0) (hh:t.heard q) (all:∀i,i<n->∃r,RelBy (stA Wg) t (o+i) r/\r<q) (h0:Deaf t 0=0):
  jD (λb=>SB b\/b=Wg) w (o+n) t:=by
 obtain⟨p,p0,p1,p2⟩:=tr.norel;have late:∀{i g:Nat},t.g? i=some g->o<=g->t.counts i->bG t i q:=by
  intro i g EZ hle hc;obtain⟨op,dW,rfl⟩:=au.1 EZ;have hb:=tr.ct.gs i op dW;obtain⟨r,hr,hrq⟩:=all (op.g-o) (by omega);rw[show o+(op.g-o)=op.g by omega]at hr;have hrp:p<=r:=cx λh=>by have:=p1 r _ h hr.g;omega
  have he:bG t r q:=.single (.inr ⟨.marked hrq (.inr hr.act) hq (λk hk _=>p2 k (by omega)),hr.heard,hh⟩);have hle:i<=r:=cx λdY=>hr.after i dY EZ hc;rcases cJ i r with dY|nD
  ·exact .trans (.single (.inl ⟨dY,op.g,EZ,hr.g⟩)) he
  ·obtain rfl:i=r:=by omega
   exact he
 obtain⟨B,hB⟩:=q66 t;refine⟨⟨B,tr.ct.nr,λi a ha hm=>?_,λi g EZ eB hc=>?_,h0,hB⟩,tr.seen,tr.mem,tr.ct.quiet,λop dW=>?_⟩
 ·rcases tr.known i a ha with h|h|⟨g,h1,h2,h3⟩
  ·exact .inl h
  ·exact .inr h
  ·refine .inl ?_;obtain⟨z,hz,hz0⟩:=au.1 hg;exact⟨q,z,hz,hz0,.inr (late h1 h2 ⟨a,ha,hm,.inl h3⟩)⟩
 ·rcases cJ g o with dY|nD
  ·exact tr.hand i g EZ eB dY hc
  ·exact⟨q,hg,late EZ nD hc⟩
 ·obtain⟨i,hi,rfl⟩:=Array.mem_iff_getElem.1 dW;have:=tr.ct.gs i _ (aH hi);omega
end
section
variable [Payload] (P:ay) (ty:aL) (o Wg C n:Nat) (SB:Blocks) (ja:Nat->Blocks->aM->ag->Prop) (K:aa->ag->Prop) (L0:Nat) (w0:ag)
structure Joined (gs:Array aa) (a:aa) (w:ag) (t:aF) (D:Nat->WX) (FM:Blocks) (q:Nat->Nat):Prop where
 size:gs.size=o+n
 main:gs[0]?=some a
 k:K a w
 leavers:bH P t gs q
 past:jD (λb=>SB b\/b=Wg) w gs.size t
 res:∀i,i<n->ja i (D i).F (D i).val w/\Has C i (D i).val w
 pay:cg C n w
 sep:Sep Wg C SB n D FM (λ_=>False) w
 kept:Kept Wg C L0 w0 n D (λ_=>False) w
end
section
variable [Payload] {P:ay} {ty:aL} {o Wg C n:Nat} {SB:Blocks} {ja:Nat->Blocks->aM->ag->Prop} {K:aa->ag->Prop} {L0:Nat} {w0:ag} {gs:Array aa} {w w':ag} {sl:Option (Nat×Nat)} {j:Nat} {D:Nat->WX} {q:Nat->Nat} {tag tag':Tag} {f0 f' d0:Nat} {rk BU:Rank} {FM OM xQ xO:Blocks} {a a':aa} {t:aF} {st sm st' sm':Int} {es:Array bp}
section
variable (jg:∀i F v w w1,ja i F v w->Ext F w w1->ja i F v w1) (ha:gs[0]?=some a) (eY:Kept Wg C L0 w0 j D OM w) (S:Sep Wg C SB j D FM OM w) (eZ:WgAt ty Wg w st sm)
include jg ha eY S eZ
theorem q5k (dP:iC P ty o Wg C n SB ja j gs w t D q 0) (dK:Mo j (xd D) .acq st sm) (fu:JT n .acq j)
  (h:Goes P true (RM ty Wg FM) DC0 (iU P (.acquire (stA Wg)) K) f0 a w):
  (∃eX a' ops q',runT P (crowd gs w sl) 0=(.next (crowd eX w sl),ops)/\Joined P o Wg C n SB ja K L0 w0 eX a' w (t++ops) D FM q')\/
  Out P ty o Wg C n SB ja K L0 w0 gs w sl t 0 (psi n (Vc j (xd D)) .acq+iP j D,ranks n D .leaf,f0+2*kK j D+2*sumTo o q):=by
 rcases aC h with eH|⟨m',rfl,dn⟩
 ·left;obtain⟨_,a',hgo,hk⟩:=eH w (jr w);obtain⟨hq,rfl,rfl⟩:=dK.fin_inv trivial;obtain rfl:j=n:=fu;have dW:=dP.vB;have hst:∀i,i<j->(D i).stage=1:=λi hi=>by
   have:=hq i hi;simp only[xd]at this;split at this
   ·omega
   ·exact this
  have eG:=bq (P:=P) (sl:=sl) (i:=0) ha (show ax P (0==0) a w=_ from hgo);have gT:=dP.step0 (fn:=a.frame.fn) (pos:=a.frame.place) jg S (es:=#[mk (.acquire (stA Wg))]) (w':=w) (a:=a) (a':=a') (λi hi=>⟨Ext.refl ..,bo w⟩) (ji _)
   (Uq (by intro e he y hy;simp at he;subst he;cases hy)) (by intro e he y hy;simp at he;subst he;cases hy) (Nn (by simp)) (by intro e he y hy;simp at he;subst he;cases hy) dP.pay
  have e1:aw 0 a.frame.fn a.frame.place #[mk (.acquire (stA Wg))]=#[{g:=0,fn:=a.frame.fn,pos:=a.frame.place,act:=.mark (.acquire (stA Wg))}]:=by rw[ofEvents_eq];simp[ofEvent_mk]
  have hy:(t++#[({g:=0,fn:=a.frame.fn,pos:=a.frame.place,act:=.mark (.acquire (stA Wg))}:MemOp)])[t.size]?=some {g:=0,fn:=a.frame.fn,pos:=a.frame.place,act:=.mark (.acquire (stA Wg))}:=by simp
  have hP:=qrp gT.tr dW (q:=t.size) (by rw[e1,act?_of hy]) (by rw[e1];simp[bV]) (by rw[e1];exact⟨0,by simp[bV],by rw[deaf_old (ji _)];exact dP.deaf0⟩)
   (λi hi=>by
    obtain⟨r,hr⟩:=dP.rel i hi (by rw[hst i hi];omega)
    exact⟨r,hr.appOther g_of_ofEvents (by omega),lt_of_act? hr.act⟩) (by rw[gT.deaf0];rfl)
  have Qy:∀i,i<j->∃g,((gs.map (woken P a a' w)).setIfInBounds 0 a')[o+i]?=some g/\QuitsD P (D i).fuel (D i).deaf g/\ja i (D i).F (D i).val w:=λi hi=>by
   obtain⟨g,hg,hs⟩:=gT.wk i hi;have h1:=hst i hi;cases hs with
   |own h9 _ _ _=>omega
   |lib h hr=>exact⟨g,hg,h.quits h1,hr⟩
  refine⟨_,a',_,λi=>if i<o then q i else(D (i-o)).fuel,eG,by simp[dP.size],bB _ _ _ (by rw[dP.size];omega),hk,⟨λi g h0 hg=>?_,λk pG=>?_⟩,?_,λi hi=>⟨?_,?_⟩,dP.pay,S.none,eY.none⟩
  ·show QuitsD P (if i<o then q i else(D (i-o)).fuel) _ g;by_cases dY:i<o
   ·rw[if_pos dY];exact gT.old i g h0 dY hg
   ·rw[if_neg dY];have hi:i<o+j:=by have:=(yx hg).1;rw[gT.size]at this;exact this
    obtain⟨g',gF,Df,_⟩:=Qy (i-o) (by omega);rw[show o+(i-o)=i by omega]at gF;obtain rfl:g=g':=by rw[hg]at gF;exact xoi gF
    have:=gT.deafW (i-o) (by omega);rw[show o+(i-o)=i by omega]at this;rw[this];exact Df
  ·rw[gT.size]at pG;exact gT.above k pG
  ·rw[gT.size];exact hP
  ·exact(Qy i hi).choose_spec.2.2
  ·exact dP.has i hi (by rw[hst i hi];omega)
 ·right;obtain⟨a',w',es,hgo,hD,gF⟩:=dn w (jr w);exact tC jg ha dP S eY eZ dK fu hgo hD (.acq gF) (by omega)
end
theorem WS.running_of {d:WX} (h:WS P ty Wg C n ja i d g w) (hs:d.stage≠1):g.status=.running:=by
 cases h with
 |own h1 h2 h3 h=>exact LZ (λ_ _ _ _ x=>x.1) h
 |lib h hr=>exact h.running_of hs
theorem someone_runs (ha:gs[0]?=some a) (kX:MS P ty Wg C n ja K tag f0 d0 rk FM OM a w) (dP:iC P ty o Wg C n SB ja j gs w t D q d0) (dK:Mo j (xd D) tag st sm):
  ∃(i:Nat) (g:aa),gs[i]?=some g/\g.status=.running:=by
 rcases kX.status with⟨hs,_⟩|⟨_,rfl⟩
 ·exact⟨0,a,ha,hs⟩
 ·have xs:∀{i:Nat},(xd D i).stage≠1->(D i).stage≠1:=λ{i} h e=>h (by simp only[xd,e];rfl);cases dK with
  |opn h1 _ _=>exact h1.elim
  |reg _ _ h3=>
   obtain⟨i,hi,h5⟩:=exists_counted h3;obtain⟨g,hg,hs⟩:=dP.wk i hi;exact⟨o+i,g,hg,hs.running_of (xs (by omega))⟩
  |last L _ h2 h3 _=>
   obtain⟨g,hg,hs⟩:=dP.wk L h2;exact⟨o+L,g,hg,hs.running_of (xs (by omega))⟩
  |sema h1 _=>rcases h1 with h1|h1<;>cases h1
  |fin h1 _=>exact h1.elim
theorem all_awake (ha:gs[0]?=some a) (kX:MS P ty Wg C n ja K tag f0 d0 rk FM OM a w) (dP:iC P ty o Wg C n SB ja j gs w t D q d0):∀g∈gs,awake g:=by
 intro g hg tm;obtain⟨i,hi⟩:=Array.mem_iff_getElem?.1 hg;rcases aS i with rfl|kG
 ·rw[ha]at hi;cases hi;rcases kX.status with⟨hs,_⟩|⟨hs,_⟩<;>rw[hs]<;>simp
 ·by_cases dY:i<o
  ·rcases(dP.old i g kG dY hi).status with h|h<;>rw[h]<;>simp
  ·have qG:i<o+j:=by have:=(yx hi).1;rw[dP.size]at this;exact this
   obtain⟨g',gF,hs⟩:=dP.wk (i-o) (by omega);rw[show o+(i-o)=i by omega]at gF;rw[hi]at gF;cases gF;rcases hs.status with h|h<;>rw[h]<;>simp
theorem ZE (jg:∀i F v w w1,ja i F v w->Ext F w w1->ja i F v w1) (hn:n<2147483648):∀(μ:Mea) (m:Machine) (t:aF),sZ P ty o Wg C n SB ja K L0 w0 μ m t->
  (∃eX a' w' sl' ops D FM q',stepT P m=(.next (crowd eX w' sl'),ops)/\Joined P o Wg C n SB ja K L0 w0 eX a' w' (t++ops) D FM q')\/
  (∃m' ops μ',stepT P m=(.next m',ops)/\MLt (n+1) μ' μ/\sZ P ty o Wg C n SB ja K L0 w0 μ' m' (t++ops)):=by
 rintro μ m t ⟨gs,w,sl,j,D,q,tag,f0,d0,rk,FM,OM,a,st,sm,rfl,ha,kX,dP,S,eZ,dK,fu,eY,rfl⟩;obtain⟨i,g,d,sl',hg,eG,dn⟩:=crowd_pick (P:=P) (w:=w) (sl:=sl) (all_awake ha kX dP) (someone_runs ha kX dP dK);rw[dn];have kX:=kX.rely (w1:=w.at d) ⟨⟨ji _,λ_ _=>rfl⟩,λx=>x⟩;have dP:=dP.at jg d;have eZ:WgAt ty Wg (w.at d) st sm:=eZ;have S:Sep Wg C SB j D FM OM (w.at d):=⟨S.wF,S.wO,S.apart,S.mF,S.mO,S.lW,S.lC,S.lS,S.hCW,S.sW,S.sC⟩
 have eY:Kept Wg C L0 w0 j D OM (w.at d):=⟨eY.keep,eY.lW,eY.lC,eY.lO,eY.lM,eY.tape,eY.os,eY.output,eY.nb⟩
 generalize w.at d=w at*;have dW:=dP.vB;rcases aS i with rfl|kG
 ·obtain rfl:g=a:=by rw[ha]at hg;exact(xoi hg).symm
  cases kX with
  | @wg r _ _ _ _ _ hr h=>
   right;cases rk with
   |node f=>exact jfw jg ha eY S eZ dP dK fu hr h
   |leaf=>
    have hs:=h w (Ext.refl ..);cases r with
    |zero=>
     obtain⟨A,ug,qH,m₂,hk⟩:=hs.2 ⟨_,_,eZ⟩;obtain⟨m₁,ops,μ',h1,h2,h3⟩:=UL (sl:=sl') jg ha eY S eZ ug qH dP (dK.reopen trivial trivial rfl (by simp)) fu hk;exact⟨m₁,ops,μ',h1,h2.lt1 (by simp only[psi];omega),h3⟩
    |succ r=>
     obtain⟨m₂,hk⟩:=hs.2 ⟨_,_,eZ⟩;obtain⟨m₁,ops,μ',h1,h2,h3⟩:=Rx (sl:=sl') jg ha eY S eZ dP (dK.reopen (tag':=.kdS r) trivial trivial rfl (by simp)) (by have:j+(r+1)=n:=fu;show j+r+1=n;omega) (by omega) hk;exact⟨m₁,ops,μ',h1,h2.lt1 (by simp only[psi];omega),h3⟩
  |kdS hr h=>exact .inr (Rx jg ha eY S eZ dP dK fu hr h)
  |ad hr h=>exact .inr (jcf jg hn ha eY S eZ dP dK fu hr h)
  |rs hr h=>exact .inr (jfb jg ha eY S eZ dP dK fu hr h)
  |en hr h=>exact .inr (jcs jg ha eY S eZ dP dK fu hr h)
  |gos hr h=>exact .inr (jc1 jg ha eY S eZ dP dK fu hr h)
  |kd h1 h2 h=>exact .inr (UL jg ha eY S eZ h1 h2 dP dK fu h)
  |anch h1 h2 h=>exact .inr (q0b jg hn ha eY S eZ h1 h2 dP dK fu h)
  |ld h1 h2 h=>exact .inr (UG jg hn ha eY S eZ h1 h2 dP dK fu h)
  |cs h1 h2 h=>exact .inr (jcn jg hn ha eY S eZ h1 h2 dP dK fu h)
  |ws h=>exact .inr (jfx jg ha eY S eZ dP dK fu h)
  |sm h=>exact .inr (jfi jg ha eY S eZ dP dK fu h)
  |blk h=>simp at eG
  |l2 h=>exact .inr (jdg jg ha eY S eZ dP dK fu h)
  |en2 h=>exact .inr (q57 jg ha eY S eZ dP dK fu h)
  |acq h=>
   rcases q5k (sl:=sl') jg ha eY S eZ dP dK fu h with⟨eX,a',ops,q',h1,h2⟩|h
   ·exact .inl ⟨eX,a',w,sl',ops,D,FM,q',h1,h2⟩
   ·exact .inr h
 ·right;by_cases dY:i<o
  ·exact q89 ha kX dP S fu eY eZ (λtag' ht=>dK.retag ht) kG dY hg eG
  ·have qG:i<o+j:=by have:=(yx hg).1;rw[dP.size]at this;exact this
   obtain⟨i',rfl⟩:∃i',i=o+i':=⟨i-o,by omega⟩
   have fe:i'<j:=by omega
   obtain⟨g',gF,hs⟩:=dP.wk i' fe;obtain rfl:g=g':=by rw[hg]at gF;exact xoi gF
   cases hs with
   |own h9 hd hf hw=>
    generalize N8:(D i').rank=Ll at hw;cases Ll with
    |leaf=>exact YP jg ha kX dP S fu eY eZ dK fe hg h9 hd (hw w (Ext.refl ..))
    |node f=>exact q9b jg ha kX dP S fu eY eZ dK fe hg h9 hd N8 hw
   |lib h hr=>exact q64 jg hn ha kX dP S fu eY eZ dK fe hg eG h hr
theorem YA (jg:∀i F v w w1,ja i F v w->Ext F w w1->ja i F v w1) (hn:n<2147483648):∀(μ:Mea) (m:Machine) (t:aF),sZ P ty o Wg C n SB ja K L0 w0 μ m t->
  ∃N eX a' w' sl' t' D FM q',runNT P N m t=(.next (crowd eX w' sl'),t')/\Joined P o Wg C n SB ja K L0 w0 eX a' w' t' D FM q':=by
 intro μ;induction μ using(MLt.wf (n+1)).induction with
 |_ μ ih=>
  intro m t h;rcases ZE jg hn μ m t h with⟨eX,a',w',sl',ops,D,FM,q',h1,h2⟩|⟨m',ops,μ',h1,h2,h3⟩
  ·exact⟨1,eX,a',w',sl',_,D,FM,q',by simp only[runNT,h1],h2⟩
  ·obtain⟨N,eX,a',w',sl',t',D,FM,q',h4,h5⟩:=ih μ' h2 m' _ h3;exact⟨N+1,eX,a',w',sl',t',D,FM,q',by simp only[runNT,h1];exact h4,h5⟩
end
theorem runNT_trans {P:ay} (a:Nat) {b:Nat} {m m':Machine} {t':aF} {r:Stepped×aF} (h:runNT P a m t=(.next m',t')) (k:runNT P b m' t'=r):runNT P (a+b) m t=r:=by
 rw[runNT_add,h];exact k
theorem pz.app {u:aF} {l:Loc} (h:pz t l) (hu:∀op∈u,∀x,op.act.touch?=some x->x.loc≠l):pz (t++u) l:=by
 intro i a ha;obtain⟨op,dW,rq⟩:=bZ ha;rcases aV dW with⟨hi,fC⟩|⟨_,rP⟩
 ·exact h i a (by rw[touchAt_of fC];exact rq)
 ·exact hu op rP a rq
theorem jD.at {SB:Blocks} (h:jD SB w n t) (d:Nat):jD SB (w.at d) n t:=⟨h.past,h.seen,h.mem,h.quiet,h.gs⟩
section
variable {P:ay} {SB:Blocks}
theorem qqv:∀(M:Nat) (gs:Array aa) (a:aa) (w:ag) (sl:Option (Nat×Nat)) (t:aF) (q:Nat->Nat),sumTo gs.size q<=M->gs[0]?=some a->a.status=.running->bH P t gs q->jD SB w gs.size t->
  ∃(N:Nat) (eX:Array aa) (jC:Option (Nat×Nat)) (d1:Nat) (sl':Option (Nat×Nat)) (t':aF) (q':Nat->Nat) (d:Nat),
   runNT P N (crowd gs w sl) t=(.next (crowd eX (w.at d1) jC),t')/\stepT P (crowd eX (w.at d1) jC)=runT P (crowd eX (w.at d) sl') 0/\eX.size=gs.size/\eX[0]?=some a/\bH P t' eX q'/\jD SB w eX.size t'/\∀l,pz t l->pz t' l:=by
 intro M;induction M with
 |zero|succ M ih=>
  intro gs a w sl t q hM h0 eG hL hP;have haw:∀g∈gs,awake g:=by
   intro g hg;obtain⟨i,hi,rfl⟩:=Array.mem_iff_getElem.1 hg;rcases aS i with rfl|kG
   ·have:gs[0]=a:=by simpa[aH hi]using h0
    rw[this];exact awake_of (.inl eG)
   ·exact awake_of ((hL.old i _ kG (aH hi)).status.elim .inl λx=>.inr (.inr x))
  obtain⟨i,g,d,sl',hi,hg,hst⟩:=crowd_pick (P:=P) (w:=w) (sl:=sl) haw ⟨0,a,h0,eG⟩;rcases aS i with rfl|kG
  ·exact⟨0,gs,sl,w.drawn,sl',t,q,d,rfl,hst,rfl,h0,hL,hP,λ_ h=>h⟩
  ·have hq:=hL.old i g kG hi;have Ww:(i==0)=false:=by simp;omega
   have dY:i<gs.size:=(yx hi).1;cases Ob:q i with
   |zero=>rw[Ob]at hq;rw[hq.1]at hg;cases hg
   |succ k=>
    rw[Ob]at hq;rcases hq with⟨hf,_⟩|⟨_,g',es,hm,DL,Df⟩
    ·rw[hf]at hg;cases hg
    have pU:=bq (P:=P) (sl:=sl') (i:=i) hi (by rw[Ww];exact DL (w.at d));have eU:((gs.map (woken P g g' (w.at d))).setIfInBounds i g').size=gs.size:=by simp
    have Pw:sumTo gs.size (upd q i k)+(k+1)=sumTo gs.size q+k:=by
     have:=sumTo_upd q k id dY;simpa[Ob]using this
    first
    |(exfalso;omega)
    |obtain⟨N,eX,jC,d1,Pn,t',q',d',hr,nK,hz,sK,sJ,pK,kR⟩:=ih ((gs.map (woken P g g' (w.at d))).setIfInBounds i g') a (w.at d) sl' (t++aw i g.frame.fn g.frame.place es) (upd q i k) (by rw[eU];omega)
      (by
       have eB:i≠0:=by omega
       rw[xne eB,bL,h0]
       simp[woken_run eG]) eG
      ⟨λj x hj hx=>by
       by_cases EY:i=j
       ·subst EY;rw[xsl (by simpa using dY)]at hx;obtain rfl:=xoi hx;rw[am,Deaf_own];exact Df
       ·rw[xne EY,bL]at hx;obtain⟨y,hy,rfl⟩:=au.1 hx;have Wj:=hL.old j y hj hy;rw[bJ Wj,aA q k (Ne.symm EY),bz t EY _ (λop dW=>by obtain⟨e,_,rfl⟩:=aj dW;rfl)];exact Wj,λj hj=>by
       rw[bz t (g':=i) (by simp at hj;omega) _ (λop dW=>by obtain⟨e,_,rfl⟩:=aj dW;rfl)]
       exact hL.above j (by simpa using hj)⟩
      (by rw[eU];exact(hP.at d).mute (by omega) dY hm)
     exact⟨N+1,eX,jC,d1,Pn,t',q',d',by simp only[runNT,hst,pU];exact hr,nK,hz.trans eU,sK,sJ,⟨pK.past,pK.seen,pK.mem,pK.quiet,pK.gs⟩,
      λl hl=>kR l (hl.app λop dW x hx=>by
       obtain⟨e,he,rfl⟩:=aj dW
       rw[touch_mute (hm e he)]at hx;cases hx)⟩
def EvZ (SB:Blocks) (B:Nat) (e:bp):Prop:=EvL (ShB SB) B e/\∀y,(ai e).touch?=some y->y.loc.isMemory=true
theorem jD.evs (h:jD SB w n t) (hn:0<n) (eU:w.heap.size<=w'.heap.size) (jA:∀e∈es,EvZ SB w'.heap.size e) (fn:aZ) (pos:String):jD SB w' n (t++aw 0 fn pos es):=by
 obtain⟨B,hP⟩:=h.past;refine⟨⟨max B w'.heap.size,(hP.mono (Nat.le_max_left ..)).own λe he=>?_⟩,Jt (λop dW=>(h.seen op dW).mono eU) (λop dW=>?_),Et h.mem (λop dW x hx=>?_),h.quiet.app λop dW x hx hs=>?_,λop dW=>?_⟩
 ·have:=(jA e he).1;exact⟨this.1,this.2.1,this.2.2.1,MemAct.low_mono (Nat.le_max_right ..) this.2.2.2⟩
 ·obtain⟨e,he,rfl⟩:=aj dW;exact CB (jA e he).1.2.2.2
 ·obtain⟨e,he,rfl⟩:=aj dW;exact(jA e he).2 x hx
 ·obtain⟨e,he,rfl⟩:=aj dW;exact⟨(jA e he).1.1 x hx hs,λ_=>rfl⟩
 ·rcases bX.1 dW with h'|h'
  ·exact h.gs op h'
  ·obtain⟨e,he,rfl⟩:=aj h';exact hn
theorem CV {gs:Array aa} {a:aa} {sl:Option (Nat×Nat)} {q:Nat->Nat} (h0:gs[0]?=some a) (eG:a.status=.running) (hL:bH P t gs q) (hP:jD SB w gs.size t)
  (hs:∀d,∃a' w' es,ax P true a (w.at d)=.go a' w' es/\w.heap.size<=w'.heap.size/\∀e∈es,EvZ SB w'.heap.size e):
  ∃(N:Nat) (eX:Array aa) (a':aa) (d:Nat) (w':ag) (es:Array bp) (sl':Option (Nat×Nat)) (t':aF) (q':Nat->Nat),
   runNT P N (crowd gs w sl) t=(.next (crowd eX w' sl'),t')/\ax P true a (w.at d)=.go a' w' es/\eX.size=gs.size/\eX[0]?=some a'/\bH P t' eX q'/\jD SB w' eX.size t'/\
   ∀l,pz t l->(∀e∈es,∀x,(ai e).touch?=some x->x.loc≠l)->pz t' l:=by
 obtain⟨N,eX,jC,d1,sl',t',q',d,hr,hst,hz,sK,sJ,pK,kR⟩:=qqv (P:=P) _ gs a w sl t q (ji _) h0 eG hL hP;obtain⟨a',w',es,hgo,eU,lX⟩:=hs d;have pU:=bq (P:=P) (sl:=sl') (i:=0) sK (show ax P (0==0) a (w.at d)=_ from hgo);have dY:0<eX.size:=(yx sK).1;have um:((eX.map (woken P a a' w')).setIfInBounds 0 a').size=eX.size:=by simp
 refine⟨N+1,(eX.map (woken P a a' w')).setIfInBounds 0 a',a',d,w',es,sl',t'++aw 0 a.frame.fn a.frame.place es,q',?_,hgo,um.trans hz,by simp[dY],⟨λj x hj hx=>?_,λj hj=>?_⟩,?_,λl hl he=>?_⟩
 ·rw[show N+1=N+1 from rfl];exact runNT_trans _ hr (by simp only[runNT,hst,pU])
 ·have eB:0≠j:=by omega
  rw[xne eB,bL]at hx;obtain⟨y,hy,rfl⟩:=au.1 hx;have hq:=sJ.old j y hj hy;rw[bJ hq,bz t' (by omega) _ (λop dW=>by obtain⟨e,_,rfl⟩:=aj dW;rfl)];exact hq
 ·rw[bz t' (g':=0) (by simp at hj;omega) _ (λop dW=>by obtain⟨e,_,rfl⟩:=aj dW;rfl)];exact sJ.above j (by simpa using hj)
 ·rw[um];exact(pK.at d).evs dY eU lX _ _
 ·refine(kR l hl).app λop dW x hx=>?_;obtain⟨e,h1,rfl⟩:=aj dW;exact he e h1 x hx
theorem qtd {R:ag->ag->Prop} {Stop:aa->ag->Prop} (hR:∀w d,R w (w.at d)) (hs:∀g w,Stop g w->g.status=.running):∀(n:Nat) (gs:Array aa) (a:aa) (w:ag) (sl:Option (Nat×Nat)) (t:aF) (q:Nat->Nat),gs[0]?=some a->bH P t gs q->jD SB w gs.size t->
   Goes P true R DC0 Stop n a w->
   ∃(N:Nat) (eX:Array aa) (a':aa) (d:Nat) (sl':Option (Nat×Nat)) (t':aF) (q':Nat->Nat),
    runNT P N (crowd gs w sl) t=(.next (crowd eX (w.at d) sl'),t')/\eX.size=gs.size/\eX[0]?=some a'/\Stop a' (w.at d)/\bH P t' eX q'/\jD SB (w.at d) eX.size t':=by
 intro n;induction n with
 |zero=>exact λgs a w sl t q h0 hL hP hG=>⟨0,gs,a,w.drawn,sl,t,q,rfl,rfl,h0,hG w (hR w w.drawn),hL,hP⟩
 |succ n ih=>
  intro gs a w sl t q h0 hL hP hG;rcases hG with eH|⟨eG,dn⟩
  ·exact⟨0,gs,a,w.drawn,sl,t,q,rfl,rfl,h0,eH w (hR w w.drawn),hL,hP⟩
  have key:∀d,∃a',ax P true a (w.at d)=.go a' (w.at d) #[]/\Goes P true R DC0 Stop n a' (w.at d):=λd=>by
   have:=dn (w.at d) (hR w d);cases hgo:ax P true a (w.at d)with
   |go a' w' es=>
    rw[hgo,goes_go]at this;obtain⟨⟨rfl,rfl⟩,hG'⟩:=this;exact⟨a',rfl,hG'⟩
   |_=>rw[hgo]at this;exact this.elim
  obtain⟨N,lK,a1,d,w1,gL,jC,t1,q1,hr,hgo,hz,o8,uf,tZ,_⟩:=CV (P:=P) (SB:=SB) (sl:=sl) h0 eG hL hP λd=>let⟨a',h1,_⟩:=key d;⟨a',_,_,h1,ji _,by simp⟩;obtain⟨a',h1,h2⟩:=key d;rw[hgo]at h1;cases h1;obtain⟨N',eX,a',d',sl',t',q',gu,zG,sK,hS,sJ,pK⟩:=ih lK _ (w.at d) jC t1 q1 o8 uf tZ h2;exact⟨N+N',eX,a',d',sl',t',q',runNT_trans _ hr gu,zG.trans hz,sK,hS,sJ,pK⟩
end
section
variable [Payload] {P:ay} {ty:aL} {Wg C n:Nat} {SB:Blocks} {ja:Nat->Blocks->aM->ag->Prop} {K:aa->ag->Prop} {L0:Nat} {gs:Array aa} {w:ag} {sl:Option (Nat×Nat)} {q:Nat->Nat} {F O:Blocks} {a:aa} {t:aF}
theorem phase (jg:∀i F v w w1,ja i F v w->Ext F w w1->ja i F v w1) (hn:n<2147483648) (h0:gs[0]?=some a) (hL:bH P t gs q) (hP:jD SB w gs.size t) (kR:∀x:Addr,x.block=Wg->pz t (.cell x))
  (Hw:WG P true (Scr P ty Wg C n ja K n) F O a w) (eZ:WgAt ty Wg w 0 0) (mG:cg C n w) (hF:∀b,F b->b<w.heap.size/\b≠Wg/\b≠C/\¬SB b) (hO:∀b,O b->F b)
  (lW:Wg<w.heap.size) (lC:C<w.heap.size) (lS:∀b,SB b->b<w.heap.size) (hCW:C≠Wg) (sW:¬SB Wg) (sC:¬SB C) (kW:L0<=Wg) (kC:L0<=C) (kO:∀b,O b->L0<=b):
  ∃N eX a' w' sl' t' D FM q',runNT P N (crowd gs w sl) t=(.next (crowd eX w' sl'),t')/\Joined P gs.size Wg C n SB ja K L0 w eX a' w' t' D FM q':=by
 obtain⟨rk,Hw⟩:=Hw;have kG:0<gs.size:=(yx h0).1;obtain⟨B,FH⟩:=hP.past
 let D:Nat->WX:=λ_=>⟨0,0,0,.leaf,λ_=>False,λ_=>False,.bool false⟩
 have kn:∀i x,touchAt t i=some x->¬ShP Wg SB x.loc->Knows t 0 i:=λi x hx hs=>by
  rcases FH.known i x hx (hP.mem i x hx)with h|⟨⟨c,h1,h2⟩,_⟩
  ·exact h
  ·exact absurd ⟨c,h1,.inl h2⟩ hs
 have tr:yC gs.size Wg C SB 0 D w t:=by
  refine⟨⟨λi op x hi hx hs=>?_,λk k1 kj l ⟨i,hi,_⟩=>absurd hi (av i),λk k1 kj l ⟨i,hi,_⟩=>absurd hi (av i),λl hs _ i x hx e=>kn i x hx (e▸hs),λl hs _ i x hx e _=>kn i x hx (e▸hs),FH.clean,λi op hi=>?_⟩,
   ⟨t.size,ji _,λi g hi hg=>?_,λi hi he=>?_⟩,λi g hg eB dY hc=>FH.over i g hg eB hc,λi x hx=>?_,hP.mem,hP.seen⟩
  ·obtain⟨c,h1,h2|h2⟩:=hs
   ·exact hP.quiet i op x hi hx ⟨c,h1,h2⟩
   ·exact absurd h1 (kR c h2 i x (by rw[touchAt_of hi];exact hx))
  ·have:=hP.gs op (bk hi);omega
  ·obtain⟨op,ho,rfl⟩:=au.1 hg;exact hP.gs op (bk ho)
  ·have:=lt_of_act? he;omega
  ·rcases FH.known i x hx (hP.mem i x hx)with h|⟨⟨c,h1,h2⟩,h3⟩
   ·exact .inl h
   ·exact .inr (.inl ⟨⟨c,h1,.inl h2⟩,h3⟩)
 have kX:MS P ty Wg C n ja K (.wg n) 0 0 rk F O a w:=.wg (ji _) Hw;have dP:iC P ty gs.size Wg C n SB ja 0 gs w t D q 0:=⟨rfl,λi g hi _ hg=>hL.old i g hi hg,λi hi=>absurd hi (av i),tr,FH.hears,λi hi=>absurd hi (av i),hL.above,λi hi=>absurd hi (av i),λi hi=>absurd hi (av i),mG,kG⟩
 have S:Sep Wg C SB 0 D F O w:=⟨λi hi=>absurd hi (av i),λi hi=>absurd hi (av i),λi _ hi=>absurd hi (av i),λb hb=>let⟨h1,h2,h3,h4⟩:=hF b hb;⟨h1,h2,h3,h4,λi hi=>absurd hi (av i)⟩,λb hb=>⟨hO b hb,λi hi=>absurd hi (av i)⟩,lW,lC,lS,hCW,sW,sC⟩
 have hm:Mo 0 (xd D) (.wg n) 0 0:=by
  have:=Mo.opn (j:=0) (D:=xd D) (tag:=.wg n) trivial (λi hi=>absurd hi (av i)) (by simp);simpa[Vc,sumTo,l8]using this
 have hj:JT n (.wg n) 0:=Nat.zero_add n;have hk:Kept Wg C L0 w 0 D O w:=⟨λ_ _=>rfl,kW,kC,λi hi=>absurd hi (av i),kO,rfl,rfl,rfl,id⟩
 exact YA (o:=gs.size) jg hn _ (crowd gs w sl) t ⟨gs,w,sl,0,D,q,.wg n,0,0,rk,F,O,a,0,0,rfl,h0,kX,dP,S,eZ,hm,hj,hk,rfl⟩
end
end
section
abbrev link:Go.Conc.Lib.WgLink:={add:=53,done:=55,wait:=57,relMerge:=77,disable:=78,enable:=79,inBubble:=80,associate:=81,fatal:=82,uOr:=83,uAdd:=84,raceRead:=85,uLoad:=86,uStore:=87,disassociate:=88,semrelease:=89,acquire:=92,isAssociated:=93,uCas:=94,raceWrite:=95,semacquire:=96,orU64:=118,addU64:=119,loadU64:=120,storeU64:=121,casU64:=125,tWgP:=158,tUP:=160,tAssoc:=161,tWg:=122,tAU:=119,tU64:=117,tUint:=165,tU32:=120,tPU32:=166,tPAU:=203,tPU64:=205,tNoCopy:=114,tANoCopy:=115,tAlign64:=116}
theorem IB:Go.Conc.Lib.WgLib prog link:=
 ⟨func53,func55,func57,func77,func78,func79,func80,func81,func82,func83,func84,func85,func86,func87,func88,func89,func92,func93,func94,func95,func96,func118,func119,func120,func121,func125,underlying158,Tryz.runUnderlying158,Tryz.sizeOf158,Tryz.isAgg158,Tryz.zeroValue158,underlying160,Tryz.runUnderlying160,Tryz.sizeOf160,Tryz.isAgg160,Tryz.zeroValue160,underlying161,Tryz.runUnderlying161,Tryz.sizeOf161,Tryz.isAgg161,Tryz.zeroValue161,underlying122,Tryz.runUnderlying122,Tryz.sizeOf122,Tryz.isAgg122,Tryz.zeroValue122,underlying119,Tryz.runUnderlying119,Tryz.sizeOf119,Tryz.isAgg119,Tryz.zeroValue119,underlying117,Tryz.runUnderlying117,Tryz.sizeOf117,Tryz.isAgg117,Tryz.zeroValue117,underlying165,Tryz.runUnderlying165,Tryz.sizeOf165,Tryz.isAgg165,Tryz.zeroValue165,underlying120,Tryz.runUnderlying120,Tryz.sizeOf120,Tryz.isAgg120,Tryz.zeroValue120,underlying166,Tryz.runUnderlying166,Tryz.sizeOf166,Tryz.isAgg166,Tryz.zeroValue166,underlying203,Tryz.runUnderlying203,Tryz.sizeOf203,Tryz.isAgg203,Tryz.zeroValue203,underlying205,Tryz.runUnderlying205,Tryz.sizeOf205,Tryz.isAgg205,Tryz.zeroValue205,underlying0,Tryz.runUnderlying0,Tryz.sizeOf0,Tryz.isAgg0,Tryz.zeroValue0,underlying3,Tryz.runUnderlying3,Tryz.sizeOf3,Tryz.isAgg3,Tryz.zeroValue3,underlying4,Tryz.runUnderlying4,Tryz.sizeOf4,Tryz.isAgg4,Tryz.zeroValue4,underlying9,Tryz.runUnderlying9,Tryz.sizeOf9,Tryz.isAgg9,Tryz.zeroValue9,underlying20,Tryz.runUnderlying20,Tryz.sizeOf20,Tryz.isAgg20,Tryz.zeroValue20,underlying21,Tryz.runUnderlying21,Tryz.sizeOf21,Tryz.isAgg21,Tryz.zeroValue21,(by kernel_rfl),(by kernel_rfl)⟩
end
end Ph
namespace Sim
open Go Go.Conc
def shf (τ:Tape) (δ:Nat×Nat) (w:ag):ag:={w with tape:=τ,drawn:=w.drawn-δ.1+δ.2}
def Fit (τ:Tape) (δ:Nat×Nat) (w:ag):Prop:=δ.1<=w.drawn/\∀i q,w.drawn<=i->τ (i-δ.1+δ.2) q=w.tape i q
def D8 {α:Type} (f:ag->ag):Result α->Result α|.ok a w=>.ok a (f w)|.halt h w=>.halt h (f w)
theorem q4j (P:ay) (w:ag) (τ:Tape) (δ:Nat×Nat) (a:Addr) (u:aL) (k:Addr) (b:Bool):(shf τ δ w).seen P a u k b=w.seen P a u k b:=rfl
theorem qrd (P:ay) (w:ag) (τ:Tape) (δ:Nat×Nat) (a:Addr) (b:Bool):(shf τ δ w).farLoad P a b=w.farLoad P a b:=rfl
theorem Zc {A:Type} {τ:Tape} (fo:Except String A) (g g':A->Except String (ag×List Addr)) (h:∀c,∃h l,g c=.ok ({w with heap:=h},l)/\g' c=.ok (shf τ δ {w with heap:=h},l)):
  (∃e,(fo >>= g)=.error e/\(fo >>= g')=.error e)\/∃h l,(fo >>= g)=.ok ({w with heap:=h},l)/\(fo >>= g')=.ok (shf τ δ {w with heap:=h},l):=by
 cases fo with
 |error e=>exact .inl ⟨e,rfl,rfl⟩
 |ok c=>exact .inr (h c)
theorem qnn (P:ay) (w:ag) (τ:Tape) (δ:Nat×Nat) (a:Addr) (u:aL) (k:Addr) (v:aM) (b:Bool):
  (∃e,w.viewStore P a u k v b=.error e/\(shf τ δ w).viewStore P a u k v b=.error e)\/
  ∃h l,w.viewStore P a u k v b=.ok ({w with heap:=h},l)/\(shf τ δ w).viewStore P a u k v b=.ok (shf τ δ {w with heap:=h},l):=by
 unfold World.viewStore;rw[q4j];generalize w.seen P a u k b=r;generalize tight P P.depth u=t;cases t with
 |false=>exact .inl ⟨_,rfl,rfl⟩
 |true=>
  cases r with
  |error e=>exact .inl ⟨_,rfl,rfl⟩
  |ok r=>
   obtain⟨c,e,frozen,first,like,cells⟩:=r;generalize v.bytes?=vb;cases vb with
   |none=>exact .inl ⟨_,rfl,rfl⟩
   |some bs=>
    dsimp only;by_cases hb:some bs.length≠like.bytes?.map (·.length)
    ·left;refine⟨_,if_pos hb,?_⟩;exact if_pos hb
    ·rcases Zc (cells.foldlM (init:=c) _) (λc=>pure ({w with heap:=w.heap.setIfInBounds a.block (.cells c e frozen)},cells.map λ(i,_,_)=>{block:=a.block,off:=i}))
      (λc=>pure ({shf τ δ w with heap:=w.heap.setIfInBounds a.block (.cells c e frozen)},cells.map λ(i,_,_)=>{block:=a.block,off:=i})) (w:=w) (τ:=τ) (δ:=δ) (λc=>⟨_,_,rfl,rfl⟩)with⟨e1,h1,h2⟩|⟨h,l,h1,h2⟩
     ·exact .inl ⟨e1,(if_neg hb).trans h1,(if_neg hb).trans h2⟩
     ·exact .inr ⟨h,l,(if_neg hb).trans h1,(if_neg hb).trans h2⟩
theorem qpb (P:ay) (w:ag) (τ:Tape) (δ:Nat×Nat) (a:Addr) (v:aM) (b:Bool):
  (∃e,w.farStore P a v b=.error e/\(shf τ δ w).farStore P a v b=.error e)\/
  ∃h l,w.farStore P a v b=.ok ({w with heap:=h},l)/\(shf τ δ w).farStore P a v b=.ok (shf τ δ {w with heap:=h},l):=by
 unfold World.farStore;have hh:(shf τ δ w).heap[a.block]?=w.heap[a.block]?:=rfl;have fF:(shf τ δ w).noCell a "store: no such cell" =w.noCell a "store: no such cell" :=rfl;rw[hh,fF];cases ho:w.heap[a.block]? with
 |none=>exact .inl ⟨_,rfl,rfl⟩
 |some o=>
  cases o with
  |view at_ u=>
   dsimp only;rcases qnn P w τ δ at_ u a v b with⟨e,e1,e2⟩|⟨h,l,e1,e2⟩
   ·exact .inl ⟨.unsupported (.unsafePointer e),by rw[e1],by rw[e2]⟩
   ·exact .inr ⟨h,l,by rw[e1],by rw[e2]⟩
  |_=>exact .inl ⟨_,rfl,rfl⟩
theorem qse {α:Type} (P:ay) (m:Mode) (a:Addr) (v:aM) (k:Sem α) {τ:Tape} (ih:∀(w:ag) (es:Array bp),Fit τ δ w->
  k.runT P (shf τ δ w) es=(D8 (shf τ δ) (k.runT P w es).1,(k.runT P w es).2)/\Fit τ δ (rw0 (k.runT P w es).1)) (w:ag) (es:Array bp) (hw:Fit τ δ w):
  storeT P m a v k (shf τ δ w) es=(D8 (shf τ δ) (storeT P m a v k w es).1,(storeT P m a v k w es).2)/\Fit τ δ (rw0 (storeT P m a v k w es).1):=by
 unfold storeT;have hc:(shf τ δ w).cell? a=w.cell? a:=rfl;have hf:(shf τ δ w).frozen? a=w.frozen? a:=rfl;simp only[hc,hf];cases hq:w.cell? a with
 |some v0=>
  dsimp only;cases Kv:w.frozen? a with
  |true=>exact⟨rfl,hw⟩
  |false=>exact ih (w.setCell a v) _ hw
 |none=>
  dsimp only;rcases qpb P w τ δ a v (m== .atomic)with⟨e,e1,e2⟩|⟨h,l,e1,e2⟩
  ·simp only[e1,e2];exact⟨rfl,hw⟩
  ·simp only[e1,e2];exact ih {w with heap:=h} _ hw
theorem Zi {α:Type} {τ:Tape}:∀(a:Ask α) (w:ag),Fit τ δ w->(shf τ δ w).ask a=((w.ask a).1,shf τ δ (w.ask a).2)/\Fit τ δ (w.ask a).2:=by
 intro a;induction a with
 |done a=>intro w h;exact⟨rfl,h⟩
 |ask what range k ih=>
  intro w h;unfold World.ask;dsimp only;have e:∀q,(shf τ δ w).tape (shf τ δ w).drawn q=w.tape w.drawn q:=λq=>h.2 w.drawn q (ji _);split
  ·rename_i hf;exact ih 0 w h
  ·rename_i hf;rw[e];have e2:({shf τ δ w with drawn:=(shf τ δ w).drawn+1}:ag)=shf τ δ {w with drawn:=w.drawn+1}:=by
    have:=h.1;unfold shf;simp only[World.mk.injEq,true_and,and_true];omega
   rw[e2];exact ih _ {w with drawn:=w.drawn+1} ⟨cr h.1,λi q hi=>h.2 i q (bK hi)⟩
theorem YO {τ:Tape} (c:Sys) (w:ag) (h:Fit τ δ w):(shf τ δ w).sys c=((w.sys c).1,shf τ δ (w.sys c).2)/\Fit τ δ (w.sys c).2:=by
 unfold World.sys;have e:bM c (shf τ δ w).os=bM c w.os:=rfl;rw[e];obtain⟨h1,h2⟩:=Zi (bM c w.os) w h;rw[h1];generalize w.ask (bM c w.os)=r at*;obtain⟨⟨a,os⟩,w1⟩:=r;cases a<;>first|exact⟨rfl,h⟩|exact⟨rfl,h2⟩
theorem Yr {α:Type} (P:ay) {τ:Tape}:∀(s:Sem α) (w:ag) (es:Array bp),Fit τ δ w->
  s.runT P (shf τ δ w) es=(D8 (shf τ δ) (s.runT P w es).1,(s.runT P w es).2)/\Fit τ δ (rw0 (s.runT P w es).1):=by
 intro s;induction s with
 |pure a=>intro w es h;exact⟨rfl,h⟩
 |halt x=>intro w es h;exact⟨rfl,h⟩
 |load m a k ih=>
  intro w es h;unfold ce;have nN:(shf τ δ w).cell? a=w.cell? a:=rfl;simp only[nN,qrd];cases hc:w.cell? a with
  |some v=>exact ih v w _ h
  |none=>
   dsimp only;cases hf:w.farLoad P a (m== .atomic)with
   |error x=>exact⟨rfl,h⟩
   |ok r=>exact ih r.1 w _ h
 |store m a v k ih=>cases v<;>first|(intro w es h;exact⟨rfl,h⟩)|exact qse P m a _ k ih
 |new o k ih=>intro w es h;exact ih _ {w with heap:=w.heap.push o} es h
 |shape r k ih=>intro w es h;exact ih _ w es h
 |freeze a n k ih=>
  intro w es h;have e:(shf τ δ w).freeze a n=shf τ δ (w.freeze a n):=by unfold World.freeze;simp only[shf];split<;>rfl
  have e1:(w.freeze a n).drawn=w.drawn:=by unfold World.freeze;split<;>rfl
  have e2:(w.freeze a n).tape=w.tape:=by unfold World.freeze;split<;>rfl
  have h':=ih (w.freeze a n) es ⟨by rw[e1];exact h.1,λi q hi=>by rw[e2];exact h.2 i q (by rw[e1]at hi;exact hi)⟩;unfold ce;rw[e];exact h'
 |frozen a k ih=>intro w es h;exact ih _ w es h
 |getObj r k ih=>
  intro w es h;unfold ce;have hc:(shf τ δ w).heap[r]?=w.heap[r]?:=rfl;simp only[hc];cases ho:w.heap[r]? with
  |none=>exact⟨rfl,h⟩
  |some o=>cases o<;>first|exact⟨rfl,h⟩|exact ih _ w _ h
 |setObj r o k ih=>
  intro w es h;unfold ce;have hc:(shf τ δ w).heap[r]?=w.heap[r]?:=rfl;simp only[hc];cases ho:w.heap[r]? with
  |none=>exact⟨rfl,h⟩
  |some o'=>cases o'<;>first|exact⟨rfl,h⟩|exact ih {w with heap:=w.heap.setIfInBounds r o} _ h
 |choose q k ih=>
  intro w es h;unfold ce;by_cases hf:q.forced=true
  ·simp only[hf,if_true];exact ih 0 w es h
  ·simp only[hf,aJ,if_false];have e:(shf τ δ w).tape (shf τ δ w).drawn q=w.tape w.drawn q:=h.2 w.drawn _ (ji _);rw[e];have e2:({shf τ δ w with drawn:=(shf τ δ w).drawn+1}:ag)=shf τ δ {w with drawn:=w.drawn+1}:=by
    have:=h.1;unfold shf;simp only[World.mk.injEq,true_and,and_true];omega
   rw[e2];exact ih _ {w with drawn:=w.drawn+1} es ⟨cr h.1,λi q hi=>h.2 i q (bK hi)⟩
 |sys c k ih=>
  intro w es h;unfold ce;obtain⟨h1,h2⟩:=YO c w h;rw[h1];exact ih _ _ _ h2
 |program k ih=>intro w es h;exact ih P w es h
 |mark m k ih=>intro w es h;exact ih w _ h
theorem shr {α:Type} {P:ay} {s:Sem α} {r:Result α} {gL:Array bp} (hr:s.runT P w es=(r,gL)) {τ:Tape} (h:Fit τ δ w):s.runT P (shf τ δ w) es=(D8 (shf τ δ) r,gL)/\Fit τ δ (rw0 r):=by
 have:=Yr P s w es h;rw[hr]at this;exact this
def ShS (f:ag->cn) (w:ag):Prop:= ∀g1 w1 es,f w=.go g1 w1 es->∀τ δ,Fit τ δ w->f (shf τ δ w)=.go g1 (shf τ δ w1) es/\Fit τ δ w1
theorem ShS.go:ShS (λw=>.go g w es) w:=by
 intro g1 w1 es h;cases h;exact λτ δ h=>⟨rfl,h⟩
theorem ShS.ended {f:ag->cn} {o:Outcome} {w2:ag} (h:f w=.ended o w2 es):ShS f w:=λg1 w1 es e=>by rw[h]at e;cases e
section
variable {X:Cx} {Fb:aZ->Bool} {wr:Bool} {sp:aZ->Bool} {ρ:Rel}
theorem Mq (hw:WR X ρ w w') (hm:fr.mode=.run) (hk:fr.kind=.normal)
  {s s':Sem Next} (hs:SS X ρ s s' (λρ1 n n'=>NR X ρ1 n n')):ShS (λw=>aP X.P true fr cs none s w) w:=by
 have e1:(fr.kind==bN)=false:=by rw[hk];rfl
 have raised:∀vs,fr.raise vs={fr with mode:=.panicking vs}:=λvs=>by unfold cz;rw[hm]
 intro g1 w1 es hgo;rcases hr:s.runT X.P w #[]with⟨r,gm⟩
 unfold aP at hgo⊢;simp only[if_true]at hgo⊢;rw[hr]at hgo;cases r with
 |halt h wx=>
  have gu:s.run X.P w=.halt h wx:=by rw[<-bi X.P s w #[],hr]
  obtain⟨qL,-⟩:=hs.2 w w' h wx hw gu;cases h with
  |panic v=>
   simp only[aQ]at hgo;cases hgo;refine λτ δ hτ=>?_;obtain⟨d3,d4⟩:=shr hr hτ;refine⟨?_,d4⟩;rw[d3];rfl
  |unsupported u=>
   cases u with
   |initOrder b=>exact qL.elim
   |_=>simp only[aQ]at hgo;cases hgo
  |stuck m=>simp only[aQ]at hgo;cases hgo
  |_=>exact qL.elim
 |ok n wx=>
  have gu:s.run X.P w=.ok n wx:=by rw[<-bi X.P s w #[],hr]
  obtain⟨ρ1,n',gD,gL,h1,h2,h3,h4,h5,h6,h7⟩:=hs.1 w w' n wx #[] hw gu;cases h6<;>
  ·simp only[aQ]at hgo;cases hgo;refine λτ δ hτ=>?_;obtain⟨d3,d4⟩:=shr hr hτ;refine⟨?_,d4⟩;rw[d3];rfl
theorem Mt (hw:WR X ρ w w') (qY:p9 ρ fr.roundOf eD.roundOf) (hk:fr.kind=.normal) (jump:Option Code) (hj:∀c,jump=some c->X.C c) (m:Bool) (eB:fr.roundOf.isSome->cs≠[]):
  ShS (λw=>tF X.P m fr cs jump w) w:=by
 rcases qY with⟨e1,e2⟩|⟨l,l',e1,e2,hl⟩
 ·unfold tF;rw[e1];dsimp only;cases jump with
  |none=>exact ShS.go
  |some c=>cases c<;>first|exact ShS.go|exact ShS.ended rfl
 ·intro g1 w1 es hgo;unfold tF at hgo⊢;rw[e1]at hgo⊢;dsimp only at hgo⊢;rcases hr:(cf l jump).runT X.P w #[]with⟨r,gm⟩
  rw[hr]at hgo;cases r with
  |halt h wx=>cases hgo
  |ok v wx=>
   cases cs with
   |nil=>exact absurd rfl (eB (by rw[e1];rfl))
   |cons c cs=>
    unfold doReturn at hgo;simp only[hk,aQ]at hgo;cases hgo;refine λτ δ hτ=>?_;obtain⟨d3,d4⟩:=shr hr hτ;refine⟨?_,d4⟩;rw[d3];simp only[D8,doReturn,hk,aQ]
theorem Rf (S:X.Set Fb wr sp) (hf:FR X Fb wr ρ fr eD) (hw:WR X ρ w w') (hm:fr.mode=.run) (m:Bool) (eB:fr.roundOf.isSome->cs≠[]):
  ShS (λw=>aq X.P m true fr cs none w) w:=by
 obtain⟨fn,tmps,todo,defers,mode,kind,ro⟩:=fr;obtain⟨fn',l7,todo',defers',qF,kind',lZ⟩:=eD;have ht:IsR X Fb wr ρ todo todo':=hf.todo;obtain rfl:fn'=fn:=hf.fn;have hk:kind=.normal:=hf.kind;have gQ:∀c,codeOk X.P X.P' Fb wr c=true->X.C c:=λc h=>(S.c c).2 h;unfold aq;cases ht with
 |nil=>exact Mt hw hf.round hk none (λc e=>by cases e) m eB
 | @cons i i' l l' a b=>
  cases a with
  |inBlock id=>exact ShS.go
  |inLoop c=>exact ShS.go
  |inRangeFunc r=>exact ShS.ended rfl
  |beginRound=>
   refine Mq (fr:=⟨fn',tmps,_,defers,mode,kind,ro⟩) (s':=do(lZ.elim (Go.stuck "beginRound: no round") bC:Sem Unit);Pure.pure .skip) hw hm hk ?_;have qY:p9 ρ ro lZ:=hf.round;rcases qY with⟨rfl,rfl⟩|⟨l,l',rfl,rfl,hl⟩
   ·exact SS.dies (q9.kQ (q9.stuck _))
   ·exact(SS.beginRound hl).bind λ_ _ _ _ _=>SS.pure .skip
  | @endRangeFunc l l' r=>
   intro g1 w1 es hgo;dsimp only at hgo⊢;rcases hr:(bR l).runT X.P w #[]with⟨r0,gm⟩
   rw[hr]at hgo;cases r0 with
   |halt h wx=>
    cases h with
    |panic v=>
     cases hgo;refine λτ δ hτ=>?_;obtain⟨d3,d4⟩:=shr hr hτ;refine⟨?_,d4⟩;rw[d3];rfl
    |_=>cases hgo
   |ok j wx=>
    cases hgo;refine λτ δ hτ=>?_;obtain⟨d3,d4⟩:=shr hr hτ;refine⟨?_,d4⟩;rw[d3];rfl
  | @inRegion ops td c=>
   cases td with
   |nil=>exact ShS.go
   |cons i td=>
    dsimp only;by_cases dU:((ops[i]?).map (aR · (bQ ops tmps))).getD false=true
    ·simp only[if_pos dU];cases ho:ops[i]? with
     |none=>rw[ho]at dU;cases dU
     |some o=>
      have fI:=Cw c ho;have nd:∀c,o.op≠.defer c:=λc e=>by
       unfold nk at fI;rw[e]at fI;simp at fI
      have vQ:(⟨fn',tmps,.inRegion ops (i::td)::l,defers,mode,kind,ro⟩:ao).oper?=some o:=ho;have e:(λw=>bd X.P true (⟨fn',tmps,.inRegion ops (i::td)::l,defers,mode,kind,ro⟩:ao) cs none w)=
        λw=>aP X.P true (⟨fn',tmps,.inRegion ops (i::td)::l,defers,mode,kind,ro⟩:ao) cs none (co (bD (⟨fn',tmps,.inRegion ops (i::td)::l,defers,mode,kind,ro⟩:ao)) o) w:=by
       funext w;unfold bd;rw[vQ];dsimp only;split
       ·rename_i e;exact absurd e (nd _)
       ·rfl
      rw[e];exact Mq hw hm hk (SS.execOp S.ok wr S.wrs o fI _ _ (hf.eval S))
    ·simp only[if_neg dU];exact ShS.go
  | @code c hc=>
   cases c with
   |skip=>exact ShS.go
   |ret=>exact Mt (fr:=⟨fn',tmps,_,defers,mode,kind,ro⟩) hw hf.round hk (some .ret) (λc e=>by cases e;exact gQ _ rfl) m eB
   |seq x y=>exact ShS.go
   |cond x y z=>
    dsimp only;generalize bD _ x=v;cases v<;>first|exact ShS.go|exact ShS.ended rfl
   |block id c=>exact ShS.go
   |loop c=>exact ShS.go
   |exit id=>
    dsimp only;cases aN id l with
    |none=>exact Mt (fr:=⟨fn',tmps,_,defers,mode,kind,ro⟩) hw hf.round hk (some (.exit id)) (λc e=>by cases e;exact gQ _ rfl) m eB
    |some k=>exact ShS.go
   |region id ops draw=>
    cases draw with
    |false=>exact ShS.go
    |true=>
     intro g1 w1 es hgo;dsimp only at hgo⊢;simp only[bT,aJ,if_false]at hgo⊢;rcases hr:(choose (.order fn' id)).runT X.P w #[]with⟨r0,gm⟩
     have gu:(choose (.order fn' id)).run X.P w=r0:=by rw[<-bi X.P _ w #[],hr]
     rw[gu]at hgo;cases r0 with
     |halt h wx=>cases hgo
     |ok t wx=>
      cases hgo;refine λτ δ hτ=>?_;obtain⟨d3,d4⟩:=shr hr hτ;refine⟨?_,d4⟩;have:(choose (.order fn' id)).run X.P (shf τ δ w)=.ok t (shf τ δ w1):=by rw[<-bi X.P _ _ #[],d3];rfl
      rw[this]
   |rangeFunc f params assign body=>
    simp only[codeOk,bE]at hc;obtain⟨jW,mD,wo⟩:=hc;have hG:X.G fn':=hf.same;intro g1 w1 es hgo;dsimp only at hgo⊢;rcases hr:(bI fn' tmps params assign body ro).runT X.P w #[]with⟨r0,gm⟩
    have uW:=SS.enterLoop hG hf.tmps params (gQ _ mD) (gQ _ wo) hf.round;rw[hr]at hgo;cases r0 with
    |halt h wx=>cases hgo
    |ok p wx=>
     obtain⟨l1,mark⟩:=p;obtain⟨ρ1,p',gD,gL,h1,h2,h3,h4,h5,⟨h6,o7⟩,h7⟩:=uH uW hw hr;obtain⟨wZ,jH⟩:=p';dsimp only at h6 o7 hgo;have fM:=hf.mono h3.le;have uV:FR X Fb wr ρ1 ⟨fn',tmps,.inRangeFunc l1::l,mark++defers,mode,kind,ro⟩ ⟨fn',l7,.inRangeFunc wZ::l',jH++defers',qF,kind',lZ⟩:=
      ⟨fM.fn,fM.same,fM.tmps,.cons (.inRangeFunc h6) (b.mono h3.le),o7.append fM.defers,fM.mode,fM.run,fM.kind,fM.kind',fM.round⟩
     have ap:=Mq (cs:=cs) (fr:=⟨fn',tmps,.inRangeFunc l1::l,mark++defers,mode,kind,ro⟩) h2 hm hk (SS.iterate S.ok (λ_=>rfl) (λ_=>rfl) ((uV.eval S).1 f jW) h6);obtain⟨pM,k1,k2⟩:=JA hgo;refine λτ δ hτ=>?_;obtain⟨d3,d4⟩:=shr hr hτ;obtain⟨q3,q4⟩:=ap g1 w1 pM k1 τ δ d4;refine⟨?_,q4⟩;rw[d3];dsimp only[D8];have k3:es=seen X.P fn' gm++pM:=by cases k2;rfl
     rw[k3];exact congrArg (aQ _) q3
   |_=>simp[codeOk]at hc
theorem SE (S:X.Set Fb wr sp) (hf:FR X Fb wr ρ fr eD) (hw:WR X ρ w w') (hm:fr.mode=.returning) (m:Bool) (eB:fr.defers≠[]\/cs≠[]):
  ShS (λw=>unwind X.P m fr cs none w) w:=by
 obtain⟨fn,tmps,todo,defers,mode,kind,ro⟩:=fr;obtain⟨fn',l7,todo',defers',qF,kind',lZ⟩:=eD;obtain rfl:fn'=fn:=hf.fn;obtain rfl:mode=.returning:=hm;obtain rfl:kind=.normal:=hf.kind;have hd:DsR ρ defers defers':=hf.defers;intro g1 w1 es hgo;cases hd with
 | @cons r r' l l' a b=>
  unfold unwind at hgo⊢;dsimp only at hgo⊢;rcases hr:(bO r).runT X.P w #[]with⟨r0,gm⟩
  rw[hr]at hgo;cases r0 with
  |halt h wx=>cases hgo
  |ok v wx=>
   cases hgo;refine λτ δ hτ=>?_;obtain⟨d3,d4⟩:=shr hr hτ;refine⟨?_,d4⟩;rw[d3];rfl
 |nil=>
  have eB:cs≠[]:=eB.resolve_left (λh=>h rfl);obtain⟨f,q1,q2⟩:=hf.same;have q1:X.P.funcs[fn']?=some f:=q1;unfold unwind at hgo⊢;dsimp only at hgo⊢;rw[q1]at hgo⊢;dsimp only at hgo⊢;rcases hr:(results f tmps).runT X.P w #[]with⟨r0,gm⟩
  rw[hr]at hgo;cases r0 with
  |halt h wx=>cases h<;>cases hgo
  |ok v wx=>
   cases cs with
   |nil=>exact absurd rfl eB
   |cons c cs=>
    cases hgo;refine λτ δ hτ=>?_;obtain⟨d3,d4⟩:=shr hr hτ;refine⟨?_,d4⟩;rw[d3];rfl
theorem q94 (S:X.Set Fb wr sp) (hf:FR X Fb wr ρ fr eD) (hw:WR X ρ w w') (m:Bool) (eB:cs≠[]):
  ShS (λw=>ax X.P m (G fr cs) w) w:=by
 rcases hf.run with hm|hm
 ·have e:(λw=>ax X.P m (G fr cs) w)=λw=>aq X.P m true fr cs none w:=funext λw=>tN _ _ _ _ _ hm;rw[e];exact Rf S hf hw hm m (λ_=>eB)
 ·have e:(λw=>ax X.P m (G fr cs) w)=λw=>unwind X.P m fr cs none w:=funext λw=>yj _ _ _ _ _ hm;rw[e];exact SE S hf hw hm m (.inr eB)
end
def BaS (f:List ao->cn):Prop:=(∃j5 up1 w1 es,∀base,f base=.go (G j5 (up1++base)) w1 es)\/∀base g1 w1 es,f base≠.go g1 w1 es
theorem BaS.go {f:List ao->cn} (fr:ao) (up:List ao) (w:ag) (es:Array bp) (h:∀base,f base=.go (G fr (up++base)) w es):BaS f:=.inl ⟨fr,up,w,es,h⟩
theorem BaS.ended {f:List ao->cn} (h:∀base,∃o w es,f base=.ended o w es):BaS f:=.inr λbase g1 w1 es e=>by
 obtain⟨o,w,iD,h⟩:=h base;rw[h]at e;cases e
theorem BaS.after {f:List ao->cn} {gm:Array bp} (h:BaS f):BaS (λbase=>aQ gm (f base)):=by
 rcases h with⟨j5,up1,w1,es,h⟩|h
 ·exact .inl ⟨j5,up1,w1,gm++es,λbase=>by show aQ gm (f base)=_;rw[h base];rfl⟩
 ·refine .inr λbase g1 w1 es e=>?_;obtain⟨pM,k1,_⟩:=JA e;exact h base g1 w1 pM k1
section
variable {X:Cx} {Fb:aZ->Bool} {wr:Bool} {sp:aZ->Bool} {ρ:Rel}
theorem EI (hw:WR X ρ w w') (hm:fr.mode=.run) (hk:fr.kind=.normal)
  {s s':Sem Next} (hs:SS X ρ s s' (λρ1 n n'=>NR X ρ1 n n')):BaS (λbase=>aP X.P true fr (up++base) none s w):=by
 have e1:(fr.kind==bN)=false:=by rw[hk];rfl
 rcases hr:s.runT X.P w #[]with⟨r,gm⟩
 unfold aP;simp only[if_true,hr,e1,aJ,if_false];cases r with
 |halt h wx=>
  have gu:s.run X.P w=.halt h wx:=by rw[<-bi X.P s w #[],hr]
  obtain⟨qL,-⟩:=hs.2 w w' h wx hw gu;cases h with
  |panic v=>exact BaS.after (BaS.go (fr.raise [{v,recovered:=false}]) up wx #[] λ_=>rfl)
  |unsupported u=>
   cases u with
   |initOrder b=>exact qL.elim
   |_=>exact BaS.after (BaS.ended λ_=>⟨_,_,_,rfl⟩)
  |stuck m=>exact BaS.after (BaS.ended λ_=>⟨_,_,_,rfl⟩)
  |_=>exact qL.elim
 |ok n wx=>
  have gu:s.run X.P w=.ok n wx:=by rw[<-bi X.P s w #[],hr]
  obtain⟨ρ1,n',gD,gL,h1,h2,h3,h4,h5,h6,h7⟩:=hs.1 w w' n wx #[] hw gu;cases h6 with
  |value h=>exact BaS.after (BaS.go (fr.finish _) up wx #[] λ_=>rfl)
  |skip=>exact BaS.after (BaS.go (fr.finish ae) up wx #[] λ_=>rfl)
  |enter _ _=>exact BaS.after (BaS.go _ (fr::up) wx #[] λ_=>rfl)
  |round _ _ _ _ _=>exact BaS.after (BaS.go _ (fr::up) wx #[] λ_=>rfl)
theorem Ji (hk:fr.kind=.normal) (jump:Option Code) (m:Bool) (eB:fr.roundOf.isSome->up≠[]):
  BaS (λbase=>tF X.P m fr (up++base) jump w):=by
 obtain⟨fn,tmps,todo,defers,mode,kind,ro⟩:=fr;obtain rfl:kind=.normal:=hk;unfold tF;cases ro with
 |none=>
  dsimp only;cases jump with
  |none=>exact BaS.go ⟨fn,tmps,todo,defers,.returning,.normal,none⟩ up w #[] λ_=>rfl
  |some c=>cases c<;>first|exact BaS.go ⟨fn,tmps,todo,defers,.returning,.normal,none⟩ up w #[] (λ_=>rfl)|exact BaS.ended λ_=>⟨_,_,_,rfl⟩
 |some l=>
  dsimp only;rcases hr:(cf l jump).runT X.P w #[]with⟨r,gm⟩
  cases r with
  |halt h wx=>exact BaS.after (BaS.ended λ_=>⟨_,_,_,rfl⟩)
  |ok v wx=>
   cases up with
   |nil=>exact absurd rfl (eB rfl)
   |cons c up=>exact BaS.after (BaS.go (c.finish v) up wx #[] λ_=>rfl)
theorem Rh (S:X.Set Fb wr sp) (hf:FR X Fb wr ρ fr eD) (hw:WR X ρ w w') (hm:fr.mode=.run) (m:Bool) (eB:fr.roundOf.isSome->up≠[]):
  BaS (λbase=>aq X.P m true fr (up++base) none w):=by
 obtain⟨fn,tmps,todo,defers,mode,kind,ro⟩:=fr;obtain⟨fn',l7,todo',defers',qF,kind',lZ⟩:=eD;have ht:IsR X Fb wr ρ todo todo':=hf.todo;obtain rfl:fn'=fn:=hf.fn;have hk:kind=.normal:=hf.kind;have gQ:∀c,codeOk X.P X.P' Fb wr c=true->X.C c:=λc h=>(S.c c).2 h;unfold aq;cases ht with
 |nil=>exact Ji hk none m eB
 | @cons i i' l l' a b=>
  cases a with
  |inBlock id=>exact BaS.go _ up w #[] λ_=>rfl
  |inLoop c=>exact BaS.go _ up w #[] λ_=>rfl
  |inRangeFunc r=>exact BaS.ended λ_=>⟨_,_,_,rfl⟩
  |beginRound=>
   refine EI (fr:=⟨fn',tmps,_,defers,mode,kind,ro⟩) (s':=do(lZ.elim (Go.stuck "beginRound: no round") bC:Sem Unit);Pure.pure .skip) hw hm hk ?_;have qY:p9 ρ ro lZ:=hf.round;rcases qY with⟨rfl,rfl⟩|⟨l,l',rfl,rfl,hl⟩
   ·exact SS.dies (q9.kQ (q9.stuck _))
   ·exact(SS.beginRound hl).bind λ_ _ _ _ _=>SS.pure .skip
  | @endRangeFunc l l' r=>
   dsimp only;rcases hr:(bR l).runT X.P w #[]with⟨r0,gm⟩
   cases r0 with
   |halt h wx=>
    cases h with
    |panic v=>exact BaS.after (BaS.go _ up wx #[] λ_=>rfl)
    |_=>exact BaS.after (BaS.ended λ_=>⟨_,_,_,rfl⟩)
   |ok j wx=>exact BaS.after (BaS.go _ up wx #[] λ_=>rfl)
  | @inRegion ops td c=>
   cases td with
   |nil=>exact BaS.go _ up w #[] λ_=>rfl
   |cons i td=>
    dsimp only;by_cases dU:((ops[i]?).map (aR · (bQ ops tmps))).getD false=true
    ·simp only[if_pos dU];cases ho:ops[i]? with
     |none=>rw[ho]at dU;cases dU
     |some o=>
      have fI:=Cw c ho;have nd:∀c,o.op≠.defer c:=λc e=>by
       unfold nk at fI;rw[e]at fI;simp at fI
      have vQ:(⟨fn',tmps,.inRegion ops (i::td)::l,defers,mode,kind,ro⟩:ao).oper?=some o:=ho;have e:(λbase=>bd X.P true (⟨fn',tmps,.inRegion ops (i::td)::l,defers,mode,kind,ro⟩:ao) (up++base) none w)=
        λbase=>aP X.P true (⟨fn',tmps,.inRegion ops (i::td)::l,defers,mode,kind,ro⟩:ao) (up++base) none (co (bD (⟨fn',tmps,.inRegion ops (i::td)::l,defers,mode,kind,ro⟩:ao)) o) w:=by
       funext base;unfold bd;rw[vQ];dsimp only;split
       ·rename_i e;exact absurd e (nd _)
       ·rfl
      rw[e];exact EI hw hm hk (SS.execOp S.ok wr S.wrs o fI _ _ (hf.eval S))
    ·simp only[if_neg dU];exact BaS.go _ up w #[] λ_=>rfl
  | @code c hc=>
   cases c with
   |skip=>exact BaS.go _ up w #[] λ_=>rfl
   |ret=>exact Ji (fr:=⟨fn',tmps,_,defers,mode,kind,ro⟩) hk (some .ret) m eB
   |seq x y=>exact BaS.go _ up w #[] λ_=>rfl
   |cond x y z=>
    dsimp only;generalize bD _ x=v;cases v<;>first|exact BaS.go _ up w #[] (λ_=>rfl)|exact BaS.ended λ_=>⟨_,_,_,rfl⟩
   |block id c=>exact BaS.go _ up w #[] λ_=>rfl
   |loop c=>exact BaS.go _ up w #[] λ_=>rfl
   |exit id=>
    dsimp only;cases aN id l with
    |none=>exact Ji (fr:=⟨fn',tmps,_,defers,mode,kind,ro⟩) hk (some (.exit id)) m eB
    |some k=>exact BaS.go _ up w #[] λ_=>rfl
   |region id ops draw=>
    cases draw with
    |false=>exact BaS.go _ up w #[] λ_=>rfl
    |true=>
     dsimp only;simp only[bT,aJ,if_false];rcases hr:(choose (.order fn' id)).run X.P w with⟨t,wx⟩|⟨h,wx⟩
     ·exact BaS.go _ up wx #[] λ_=>rfl
     ·exact BaS.ended λ_=>⟨_,_,_,rfl⟩
   |rangeFunc f params assign body=>
    simp only[codeOk,bE]at hc;obtain⟨jW,mD,wo⟩:=hc;have hG:X.G fn':=hf.same;dsimp only;rcases hr:(bI fn' tmps params assign body ro).runT X.P w #[]with⟨r0,gm⟩
    have uW:=SS.enterLoop hG hf.tmps params (gQ _ mD) (gQ _ wo) hf.round;cases r0 with
    |halt h wx=>exact BaS.after (BaS.ended λ_=>⟨_,_,_,rfl⟩)
    |ok p wx=>
     obtain⟨l1,mark⟩:=p;obtain⟨ρ1,p',gD,gL,h1,h2,h3,h4,h5,⟨h6,o7⟩,h7⟩:=uH uW hw hr;obtain⟨wZ,jH⟩:=p';dsimp only at h6 o7;have fM:=hf.mono h3.le;have uV:FR X Fb wr ρ1 ⟨fn',tmps,.inRangeFunc l1::l,mark++defers,mode,kind,ro⟩ ⟨fn',l7,.inRangeFunc wZ::l',jH++defers',qF,kind',lZ⟩:=
      ⟨fM.fn,fM.same,fM.tmps,.cons (.inRangeFunc h6) (b.mono h3.le),o7.append fM.defers,fM.mode,fM.run,fM.kind,fM.kind',fM.round⟩
     exact BaS.after (EI (up:=up) (fr:=⟨fn',tmps,.inRangeFunc l1::l,mark++defers,mode,kind,ro⟩) h2 hm hk (SS.iterate S.ok (λ_=>rfl) (λ_=>rfl) ((uV.eval S).1 f jW) h6))
   |_=>simp[codeOk]at hc
theorem MU (S:X.Set Fb wr sp) (hf:FR X Fb wr ρ fr eD) (hm:fr.mode=.returning) (m:Bool) (eB:fr.defers≠[]\/up≠[]):
  BaS (λbase=>unwind X.P m fr (up++base) none w):=by
 obtain⟨fn,tmps,todo,defers,mode,kind,ro⟩:=fr;obtain⟨fn',l7,todo',defers',qF,kind',lZ⟩:=eD;obtain rfl:fn'=fn:=hf.fn;obtain rfl:mode=.returning:=hm;obtain rfl:kind=.normal:=hf.kind;have hd:DsR ρ defers defers':=hf.defers;cases hd with
 | @cons r r' l l' a b=>
  unfold unwind;dsimp only;rcases hr:(bO r).runT X.P w #[]with⟨r0,gm⟩
  cases r0 with
  |halt h wx=>exact BaS.after (BaS.ended λ_=>⟨_,_,_,rfl⟩)
  |ok v wx=>exact BaS.after (BaS.go _ up wx #[] λ_=>rfl)
 |nil=>
  have eB:up≠[]:=eB.resolve_left (λh=>h rfl);obtain⟨f,q1,q2⟩:=hf.same;have q1:X.P.funcs[fn']?=some f:=q1;unfold unwind;dsimp only;rw[q1];dsimp only;rcases hr:(results f tmps).runT X.P w #[]with⟨r0,gm⟩
  cases r0 with
  |halt h wx=>cases h<;>exact BaS.after (BaS.ended λ_=>⟨_,_,_,rfl⟩)
  |ok v wx=>
   cases up with
   |nil=>exact absurd rfl eB
   |cons c up=>exact BaS.after (BaS.go (c.finish v) up wx #[] λ_=>rfl)
theorem QS (S:X.Set Fb wr sp) (hf:FR X Fb wr ρ fr eD) (hw:WR X ρ w w') (m:Bool) (hB:Bot (fr::up)) (hgo:fr.mode=.run\/fr.defers≠[]\/up≠[]):
  BaS (λbase=>ax X.P m (G fr (up++base)) w):=by
 rcases hf.run with hm|hm
 ·have e:(λbase=>ax X.P m (G fr (up++base)) w)=λbase=>aq X.P m true fr (up++base) none w:=funext λbase=>tN _ _ _ _ _ hm;rw[e];refine Rh S hf hw hm m λh hu=>?_;subst hu;have:=hB fr (by simp);rw[this]at h;cases h
 ·have e:(λbase=>ax X.P m (G fr (up++base)) w)=λbase=>unwind X.P m fr (up++base) none w:=funext λbase=>yj _ _ _ _ _ hm;rw[e];exact MU S hf hm m (hgo.resolve_left (by rw[hm];intro h;cases h))
end
end Sim
namespace Ph
open Go Go.Conc Go.ConcN Sim
structure Same (w wc:ag):Prop where
 heap:wc.heap=w.heap
 os:wc.os=w.os
 output:wc.output=w.output
theorem Same.refl (w:ag):Same w w:=⟨rfl,rfl,rfl⟩
section
variable {X:Cx} {Fb:aZ->Bool} {SB:Blocks} {Q:ao->List ao->ag->Prop}
theorem qqu (pJ:X.P'=X.P) (S:X.Set Fb true (λ_=>false)) (hQ:∀fr cs w,Q fr cs w->∀ch,fr.mode≠.panicking ch):∀{fr:ao} {cs:List ao} {w:ag},mQ X.P Q fr cs w->
  ∀{ρ:Rel} {up base:List ao} {gs:Array aa} {wc:ag} {sl:Option (Nat×Nat)} {t:aF} {q:Nat->Nat},cs=up++[c0]->base≠[]->FR X Fb true ρ fr fr->FsR X Fb true ρ up up->WN X ρ w wc->Same w wc->NB w->Bot (fr::up)->
   gs[0]?=some (G fr (up++base))->bH X.P t gs q->jD SB wc gs.size t->tK SB (rng ρ) (own X ρ) wc->
   ∃(N:Nat) (eX:Array aa) (iJ:ao) (xV:List ao) (w2 nI:ag) (sl':Option (Nat×Nat)) (t':aF) (q':Nat->Nat) (ρ2:Rel),
    runNT X.P N (crowd gs wc sl) t=(.next (crowd eX nI sl'),t')/\Q iJ (xV++[c0]) w2/\eX.size=gs.size/\eX[0]?=some (G iJ (xV++base))/\Same w2 nI/\FR X Fb true ρ2 iJ iJ/\FsR X Fb true ρ2 xV xV/\WN X ρ2 w2 nI/\ρ.le ρ2/\NB w2/\
     bH X.P t' eX q'/\jD SB nI eX.size t'/\tK SB (rng ρ2) (own X ρ2) nI:=by
 intro fr cs w h;induction h with
 | @done fr cs w hq=>
  rintro ρ up base gs wc sl t q rfl _ hf hu hw hs hn hB h0 hL hP hF;exact⟨0,gs,fr,up,w,wc,sl,t,q,ρ,rfl,hq,rfl,h0,hs,hf,hu,hw,ρ.le_refl,hn,hL,hP,hF⟩
 | @step fr cs w nf nc nw ne dn hm ih=>
  rintro ρ up base gs wc sl t q rfl nR hf hu hw hs hn hB h0 hL hP hF;have key:∀d,∃j5 up1 w1 ρ1 es,ax X.P true (G fr (up++base)) (wc.at d)=.go (G j5 (up1++base)) (shf wc.tape (w.drawn,d) w1) es/\
    (∃τ,(Agree w τ)/\j5=nf τ/\up1++[c0]=nc τ/\w1=nw τ)/\FR X Fb true ρ1 j5 j5/\FsR X Fb true ρ1 up1 up1/\WR X ρ1 w1 (shf wc.tape (w.drawn,d) w1)/\ρ.le ρ1/\NB w1/\Bot (j5::up1)/\
    tJ (rng ρ) (own X ρ) (wc.at d) (rng ρ1) (own X ρ1) (shf wc.tape (w.drawn,d) w1) es:=λd=>by
   let τ:Tape:=λi q=>if i<w.drawn then w.tape i q else wc.tape (i-w.drawn+d) q
   have ha:Agree w τ:=λi q hi=>if_pos hi;have rQ:Fit wc.tape (w.drawn,d) (re w τ):=⟨ji _,λi q hi=>by
    have fe:¬i<w.drawn:=Nat.not_lt.2 hi
    exact(if_neg fe).symm⟩
   have OW:shf wc.tape (w.drawn,d) (re w τ)=wc.at d:=by
    have h1:=hs.heap;have h2:=hs.os;have h3:=hs.output;obtain⟨hp,tp,dr,os,out⟩:=wc;simp only at h1 h2 h3;subst h1;subst h2;subst h3;simp[shf,re,World.at]
   have qX:WR X ρ (re w τ) (wc.at d):=by
    obtain⟨τ0,_,k⟩:=hw;refine⟨k.fn,k.inj,k.heap,λi q=>?_,k.sh⟩;have h1:¬w.drawn+i<w.drawn:=by omega
    have h2:w.drawn+i-w.drawn+d=d+i:=by omega
    have h3:τ (w.drawn+i) q=wc.tape (w.drawn+i-w.drawn+d) q:=if_neg h1;rw[h2]at h3;exact h3
   have hst:ax X.P true (G fr (up++[c0])) (re w τ)=.go (G (nf τ) (nc τ)) (nw τ) (ne τ):=dn τ ha;by_cases hgo:fr.mode=.run\/fr.defers≠[]\/up≠[]
   ·rcases QS S hf qX true hB hgo with⟨j5,up1,w1,es,zS⟩|zS
    ·have e1:ax X.P true (G fr (up++[c0])) (re w τ)=_:=zS [c0];rw[hst]at e1;have e2:ax X.P true (G fr (up++base)) (re w τ)=_:=zS base;have eB:up++base≠[]:=by simp[nR]
     obtain⟨e3,jh7⟩:=q94 S (cs:=up++base) hf qX true eB _ _ _ e2 wc.tape (w.drawn,d) rQ;rw[OW]at e3;have e3:ax X.P true (G fr (up++base)) (wc.at d)=_:=e3;have out:=Jr S (base:=base) (base':=base) hf hu qX hn hB hgo true true;rw[pJ,e3,e2]at out;generalize hg:GStep.go (G j5 (up1++base)) w1 es=s at out;cases out with
     | @nice f1 OU u1 Lf ρ1 x1 Lc gL NM e h1 h2 h3 h4 h5 h6 h7 h8=>
      have jG:j5=f1/\up1++base=u1++base/\w1=x1:=by
       injection hg with a b c;injection a with a1 a2;exact⟨a1,a2,b⟩
      obtain⟨rfl,oq,rfl⟩:=jG;obtain rfl:=aE oq;have Ov:j5=OU/\up1++base=Lf++base/\shf wc.tape (w.drawn,d) w1=Lc/\es=NM:=by
       injection e with a b c;injection a with a1 a2;exact⟨a1,a2,b,c⟩
      obtain⟨rfl,Bh,rfl,rfl⟩:=Ov;obtain rfl:=aE Bh;have rG:nf τ=j5/\nc τ=up1++[c0]/\nw τ=w1:=by
       injection e1 with a b c;injection a with a1 a2;exact⟨a1,a2,b⟩
      exact⟨j5,up1,w1,ρ1,es,e3,⟨τ,ha,rG.1.symm,rG.2.1.symm,rG.2.2.symm⟩,h1,h2,h3,h4.le,h7,h8,Gf qX h4 h3 h6⟩
     |special k1 k2=>cases k2
     | @panic f1 u1 ch x1 gL h1 h2=>
      exfalso;have jG:j5={f1 with mode:=.panicking ch}/\up1++base=u1++base/\w1=x1:=by
       injection hg with a b c;injection a with a1 a2;exact⟨a1,a2,b⟩
      obtain⟨rfl,oq,rfl⟩:=jG;obtain rfl:=aE oq;have rG:nf τ={f1 with mode:=.panicking ch}/\nc τ=up1++[c0]/\nw τ=w1:=by
       injection e1 with a b c;injection a with a1 a2;exact⟨a1,a2,b⟩
      have zP:=hm τ ha;rw[rG.1,rG.2.1,rG.2.2]at zP;exact CX hQ zP trivial ⟨_,rfl⟩ (.inl ⟨_,rfl,h1,h2⟩)
     |ended=>cases hg
    ·exact absurd hst (zS _ _ _ _)
   ·exfalso;have ol:up=[]:=aW λh=>hgo (.inr (.inr h));subst ol;obtain⟨h1,h2,h3⟩:=JC S hf qX hn (λh=>hgo (h.imp id .inl)) hst;exact CX hQ (hm τ ha) h1 h2 h3
  have kG:0<gs.size:=(yx h0).1;obtain⟨N,lK,a1,d,Le,es,jC,t1,q1,hr,hgo,hz,o8,uf,tZ,_⟩:=CV (P:=X.P) (SB:=SB) (sl:=sl) h0 rfl hL hP λd=>by
   obtain⟨j5,up1,w1,ρ1,es,e,_,_,_,_,_,_,_,ok⟩:=key d;have Du:tK SB (rng ρ) (own X ρ) (wc.at d):=⟨hF.apart,hF.low,hF.own,hF.foot⟩
   have kS:=Du.step ok;exact⟨_,_,es,e,ok.size,λx hx=>⟨I6 (ok.ev x hx) kS.apart kS.foot,λy hy=>(L9 (ok.ev x hx) hy).1⟩⟩
  obtain⟨j5,up1,w1,ρ1,iD,e,⟨τ,ha,rfl,EU,rfl⟩,h1,h2,h3,hle,h7,h8,ok⟩:=key d;rw[e]at hgo;have jG:G (nf τ) (up1++base)=a1/\shf wc.tape (w.drawn,d) (nw τ)=Le/\iD=es:=by
   injection hgo with a b c;exact⟨a,b,c⟩
  obtain⟨rfl,rfl,rfl⟩:=jG;have Du:tK SB (rng ρ) (own X ρ) (wc.at d):=⟨hF.apart,hF.low,hF.own,hF.foot⟩
  obtain⟨N',eX,iJ,xV,w2,nI,sl',t',q',ρ2,gu,hq,zG,sK,nK,g1,g2,g3,g4,g5,sJ,pK,kS⟩:=ih τ ha EU.symm nR h1 h2 (WN.of h3) ⟨rfl,rfl,rfl⟩ h7 h8 o8 uf tZ (Du.step ok);exact⟨N+N',eX,iJ,xV,w2,nI,sl',t',q',ρ2,runNT_trans _ hr gu,hq,zG.trans hz,sK,nK,g1,g2,g3,Rel.le_trans hle g4,g5,sJ,pK,kS⟩
end
structure At (X:Cx) (Fb:aZ->Bool) (SB:Blocks) (ρ:Rel) (gs:Array aa) (fr:ao) (cs:List ao) (w:ag) (t:aF) (q:Nat->Nat):Prop where
 g0:gs[0]?=some (G fr cs)
 leavers:bH X.P t gs q
 past:jD SB w gs.size t
 foot:tK SB (rng ρ) (own X ρ) w
 fr:FR X Fb true ρ fr fr
 cs:FsR X Fb true ρ cs cs
 wr:WR X ρ w w
 nb:NB w
def Runs (P:ay) (gs:Array aa) (w:ag) (sl:Option (Nat×Nat)) (t:aF) (eX:Array aa) (w':ag) (sl':Option (Nat×Nat)) (t':aF):Prop:= ∃N,runNT P N (crowd gs w sl) t=(.next (crowd eX w' sl'),t')
theorem Runs.trans {P:ay} {g1 g2 g3:Array aa} {w1 w2 w3:ag} {s1 s2 s3:Option (Nat×Nat)} {t1 t2 t3:aF} (h:Runs P g1 w1 s1 t1 g2 w2 s2 t2) (k:Runs P g2 w2 s2 t2 g3 w3 s3 t3):Runs P g1 w1 s1 t1 g3 w3 s3 t3:=by
 obtain⟨N,h⟩:=h;obtain⟨M,k⟩:=k;exact⟨N+M,runNT_trans _ h k⟩
def AP (b:ao) (k:List Item):Exit->Act->ao->Prop
 |.normal,a,fr=>fr=b.at a k
 |.exit id,a,fr=>∃k',aN id k=some k'/\fr=b.at a k'
 |.ret,a,fr=>∃todo,fr={b.at a todo with mode:=.returning}
 |_,_,_=>False
def Plain (k:List Item) (Q:Exit->Act->ag->Prop):Prop:= ∀e a w,Q e a w->match e with
 |.normal|.ret=>True
 |.exit id=>∃k',aN id k=some k'
 |_=>False
def Tgt (b:ao) (k:List Item) (Q:Exit->Act->ag->Prop) (fr:ao) (cs:List ao) (w:ag):Prop:=cs=[c0]/\∃e a,Q e a w/\AP b k e a fr
section
variable {X:Cx} {Fb:aZ->Bool} {SB:Blocks}
theorem Ni (S:X.Set Fb true (λ_=>false)) {b:ao} {Q:Exit->Act->ag->Prop} (hinv:Inv X Fb true fr [c0] w) (qZ:Plain k Q) (rD:∀e a w wc,Same w wc->Q e a w->Q e a wc)
  (hp:∀τ,Agree w τ->∃e a' w',Q e a' w'/\Arrives X.P (lone fr [c0] (re w τ)) b k [c0] e a' w'):mQ X.P (Tgt b k Q) fr [c0] w:=by
 refine bar S (λfr cs w h ch=>?_) (λfr cs w τ hi ha h=>?_) hinv (λτ ha=>?_)
 ·obtain⟨_,e,a,_,hl⟩:=h;cases e with
  |normal=>rw[show fr=b.at a k from hl];intro h;cases h
  |exit id=>obtain⟨k',_,rfl⟩:=hl;intro h;cases h
  |ret=>obtain⟨todo,rfl⟩:=hl;intro h;cases h
  |_=>exact hl.elim
 ·obtain⟨h1,e,a,h2,h3⟩:=h;exact⟨h1,e,a,rD e a (re w τ) w ⟨rfl,rfl,rfl⟩ h2,h3⟩
 ·obtain⟨e,a',w',hq,DY⟩:=hp τ ha;have hx:=qZ _ _ _ hq;have go:∀{iJ:ao},AP b k e a' iJ->Steps X.P (lone fr [c0] (re w τ)) (lone iJ [c0] w')->vC X.P (Tgt b k Q) fr [c0] (re w τ):=λhl hs=>by
   obtain⟨n,hn⟩:=hs;exact conv S (Q:=Tgt b k Q) ⟨rfl,e,a',hq,hl⟩ n (.inl (hinv.re τ)) hn
  cases e with
  |normal=>exact go rfl DY
  |exit id=>obtain⟨k',hk⟩:=hx;exact go ⟨k',hk,rfl⟩ (DY k' hk)
  |ret=>obtain⟨todo,hs⟩:=DY;exact go ⟨todo,rfl⟩ hs
  |_=>exact hx.elim
theorem piece (pJ:X.P'=X.P) (S:X.Set Fb true (λ_=>false)) {gs:Array aa} {b:ao} {sl:Option (Nat×Nat)} {q:Nat->Nat} {Q:Exit->Act->ag->Prop}
  (h:At X Fb SB ρ gs fr cs w t q) (gH:cs≠[]) (oU:fr.roundOf=none) (qZ:Plain k Q) (rD:∀e a w wc,Same w wc->Q e a w->Q e a wc)
  (hp:∀τ,Agree w τ->∃e a' w',Q e a' w'/\Arrives X.P (lone fr [c0] (re w τ)) b k [c0] e a' w'):
  ∃(eX:Array aa) (e:Exit) (a':Act) (eD:ao) (w':ag) (sl':Option (Nat×Nat)) (t':aF) (q':Nat->Nat) (ρ':Rel),
   Runs X.P gs w sl t eX w' sl' t'/\Q e a' w'/\AP b k e a' eD/\eX.size=gs.size/\ρ.le ρ'/\At X Fb SB ρ' eX eD cs w' t' q':=by
 have hB:Bot [fr]:=by
  intro f hf;simp at hf;subst hf;exact oU
 have hinv:Inv X Fb true fr [c0] w:=⟨ρ,fr,[],[],w,rfl,h.fr,.nil,h.wr,h.nb,hB⟩
 have hm:=Ni S hinv qZ rD hp;obtain⟨N,eX,iJ,xV,w2,nI,sl',t',q',ρ2,hr,⟨GY,e,a',hq,hl⟩,hz,sK,hs,g1,g2,g3,g4,g5,sJ,pK,kS⟩:=qqu pJ S (λfr cs w h ch=>by
   obtain⟨_,e,a,_,hl⟩:=h;cases e with
   |normal=>rw[show fr=b.at a k from hl];intro h;cases h
   |exit id=>obtain⟨k',_,rfl⟩:=hl;intro h;cases h
   |ret=>obtain⟨todo,rfl⟩:=hl;intro h;cases h
   |_=>exact hl.elim) hm (up:=[]) rfl gH h.fr .nil (WN.of h.wr) (Same.refl w) h.nb hB h.g0 h.leavers h.past h.foot
 have hu:xV=[]:=by
  have:=congrArg List.length GY;simp at this;exact List.eq_nil_of_length_eq_zero (by simpa using this)
 subst hu;refine⟨eX,e,a',iJ,nI,sl',t',q',ρ2,⟨N,hr⟩,rD _ _ _ _ hs hq,hl,hz,g4,⟨sK,sJ,pK,kS,g1,h.cs.mono g4,?_,?_⟩⟩
 ·obtain⟨τ0,_,k0⟩:=g3;refine⟨k0.fn,k0.inj,λ{a b} gG=>?_,λ_ _=>rfl,λa ha=>absurd ha (S.wrs rfl a)⟩;obtain⟨o,o',k1,k2,k3⟩:=k0.heap gG;exact⟨o,o',by rw[hs.heap];exact k1,k2,k3⟩
 ·exact g5
end
end Ph
namespace Sim
open Go Go.Conc
def stop (n:Nat):Item:=.code (.loop (.block n .skip))
mutual
def st:List Item->List Item
 |k=>stop k.length::sf k
termination_by k=>2*k.length+1
def sf:List Item->List Item
 |[]=>[]
 |.inBlock id::k=>.inBlock id::st k
 |_::k=>sf k
termination_by k=>2*k.length
end
theorem uD (k:List Item):st k=stop k.length::sf k:=by rw[st]
theorem Y2 (id:Nat) (k:List Item):aN id (sf k)=(aN id k).map st:=by
 induction k with
 |nil=>rw[sf];rfl
 |cons a k ih=>
  cases a with
  |inBlock xA=>
   rw[sf];unfold aN;split
   ·rfl
   ·rw[uD];show aN id (stop k.length::sf k)=_;rw[<-ih];rfl
  |_=>
   rw[sf,ih]
   ·rfl
   ·intro _ e;cases e
theorem Jz (id:Nat) (k:List Item):aN id (st k)=(aN id k).map st:=by
 rw[uD,<-Y2];rfl
theorem JI (id:Nat) (k:List Item):∀u,aN id (u++k)=((aN id u).map (· ++k)).or (aN id k)
 |[]=>by simp[aN]
 |a::u=>by
  cases a with
  |inBlock xA=>
   show aN id (.inBlock xA::(u++k))=_;have e:∀l,aN id (.inBlock xA::l)=if xA==id then some l else aN id l:=λl=>rfl
   rw[e,e];split
   ·simp
   ·rw[JI id k u]
  |_=>exact JI id k u
theorem Uo {id:Nat}:∀{k k':List Item},aN id k=some k'->k' <:+ k
 |[],_,h=>by cases h
 |a::k,k',h=>by
  have key:∀{k1},aN id k=some k1->k1 <:+ a::k:=λh=>(Uo h).trans (List.suffix_cons a k);cases a with
  |inBlock xA=>
   unfold aN at h;split at h
   ·cases h;exact List.suffix_cons _ _
   ·exact key h
  |_=>exact key h
theorem jfj {k1 k2:List Item} (h1:k1 <:+ k) (h2:k2 <:+ k) (h:st k1=st k2):k1=k2:=by
 rw[uD,uD]at h;injection h with h _;injection h with h;injection h with h;injection h with h _;exact(List.suffix_of_suffix_length_le h1 h2 (Nat.le_of_eq h)).eq_of_length h
theorem Ug (P P':ay) (Fb:aZ->Bool) (wr:Bool) (n:Nat):codeOk P P' Fb wr (.loop (.block n .skip))=true:=rfl
section
variable {X:Cx} {Fb:aZ->Bool} {wr:Bool} {sp:aZ->Bool} {ρ:Rel}
theorem IsR.sf (X:Cx) (Fb:aZ->Bool) (wr:Bool) (ρ:Rel):∀k,IsR X Fb wr ρ (sf k) (sf k)
 |[]=>by rw[Sim.sf];exact .nil
 |a::k=>by
  have ih:=IsR.sf X Fb wr ρ k;cases a with
  |inBlock id=>rw[Sim.sf,uD];exact .cons (.inBlock id) (.cons (.code (Ug _ _ _ _ _)) ih)
  |_=>
   rw[Sim.sf]
   ·exact ih
   ·intro _ e;cases e
theorem IsR.st (X:Cx) (Fb:aZ->Bool) (wr:Bool) (ρ:Rel) (k:List Item):IsR X Fb wr ρ (st k) (st k):=by
 rw[uD];exact .cons (.code (Ug _ _ _ _ _)) (IsR.sf X Fb wr ρ k)
end
def Sim.bare (o:Oper):Oper:={o with guard:=none}
inductive TS (k:List Item) (tm:Array aM):List Item->List Item->Prop
 |code (a:Item) (u:List Item):TS k tm (a::u++st k) (a::u++k)
 |op {ops:Array Oper} {i:Nat} {td:List Nat} {k0:List Item} {o:Oper}:k=.inRegion ops td::k0->ops[i]?=some o->aR o (bQ ops tm)=true->
   TS k tm (.inRegion #[Sim.bare o] [0]::st k) (.inRegion ops (i::td)::k0)
def wt (f:ao) (t:List Item):ao:={f with todo:=t}
inductive Sw (k:List Item):ao->List ao->ao->List ao->Prop
 |bot {f:ao} {t t':List Item}:TS k f.tmps t t'->Sw k (wt f t) [] (wt f t') []
 |ret {f:ao} {t t':List Item}:f.mode=.returning->Sw k (wt f t) [] (wt f t') []
 |above {g:ao} {up:List ao} {f:ao} {t t':List Item}:TS k f.tmps t t'->Sw k g (up++[wt f t]) g (up++[wt f t'])
inductive Ld (k:List Item):ao->ao->Prop
 |land {f:ao} {k':List Item}:k'=k\/(∃id,aN id k=some k')->Ld k (wt f (st k')) (wt f k')
 |late {f:ao} {o:Oper}:Ld k (wt f (.inRegion #[o] []::st k)) (wt f k)
inductive Aft (k:List Item):ao->List ao->ao->List ao->Prop
 |sw {fr gr:ao} {up gup:List ao}:Sw k fr up gr gup->Aft k fr up gr gup
 |ld {fr gr:ao}:Ld k fr gr->Aft k fr [] gr []
 |panic {fr gr:ao} {ch:List PanicEntry}:fr.mode=.panicking ch->Aft k fr [] gr []
def jm (k:List Item) (base:List ao) (s s':cn):Prop:=
 (∃j5 up1 sM pX w1 es,s=.go (G j5 (up1++base)) w1 es/\s'=.go (G sM (pX++base)) w1 es/\Aft k j5 up1 sM pX)\/∀g1 w1 es,s≠.go g1 w1 es
theorem jm.ended {base:List ao} {o:Outcome} {s':cn}:jm k base (.ended o w es) s':=.inr λ_ _ _ e=>by cases e
theorem jm.after {base:List ao} {gm:Array bp} {s s':cn} (h:jm k base s s'):jm k base (aQ gm s) (aQ gm s'):=by
 rcases h with⟨j5,up1,sM,pX,w1,es,rfl,rfl,h⟩|h
 ·exact .inl ⟨j5,up1,sM,pX,w1,gm++es,rfl,rfl,h⟩
 ·refine .inr λg1 w1 es e=>?_;obtain⟨pM,k1,_⟩:=JA e;exact h g1 w1 pM k1
theorem jm.to {base:List ao} (f:ao) (u:List Item) (w:ag) (es:Array bp):jm k base (.go (G (wt f (u++st k)) base) w es) (.go (G (wt f (u++k)) base) w es):=by
 refine .inl ⟨wt f (u++st k),[],wt f (u++k),[],w,es,rfl,rfl,?_⟩;cases u with
 |nil=>exact .ld (.land (.inl rfl))
 |cons a u=>exact .sw (.bot (.code a u))
theorem jm.ret {k:List Item} {base:List ao} (f:ao) (t t':List Item) (hm:f.mode=.returning) (w:ag) (es:Array bp):jm k base (.go (G (wt f t) base) w es) (.go (G (wt f t') base) w es):=
 .inl ⟨wt f t,[],wt f t',[],w,es,rfl,rfl,.sw (.ret hm)⟩
theorem jm.panic {k:List Item} {base:List ao} {f g:ao} {ch:List PanicEntry} (hm:f.mode=.panicking ch) {w:ag} {es:Array bp}:jm k base (.go (G f base) w es) (.go (G g base) w es):=
 .inl ⟨f,[],g,[],w,es,rfl,rfl,.panic hm⟩
section
variable {X:Cx} {Fb:aZ->Bool} {wr:Bool} {sp:aZ->Bool} {ρ:Rel}
def Ru:List Item->Prop
 |.call _ _ _ _::_=>False
 |_=>True
theorem Jm {base:List ao} {t:List Item} (hw:WR X ρ w w') (hm:f.mode=.run) (hk:f.kind=.normal) (hp:Ru t) (Bn:Ru t')
  (Ai:∀v,Aft k ((wt f t).finish v) [] ((wt f t').finish v) []) (Kt:TS k f.tmps t t')
  {s s':Sem Next} (hs:SS X ρ s s' (λρ1 n n'=>NR X ρ1 n n')):jm k base (aP X.P true (wt f t) base none s w) (aP X.P true (wt f t') base none s w):=by
 have e1:((wt f t).kind==bN)=false:=by show(f.kind==_)=_;rw[hk];rfl
 have e2:((wt f t').kind==bN)=false:=e1;have rz:(match(wt f t).todo with|.call _ true _ _::_=>bF|_=>.normal)=.normal:=by
  show(match t with|.call _ true _ _::_=>bF|_=>.normal)=.normal;split
  ·exact hp.elim
  ·rfl
 have kD:(match(wt f t').todo with|.call _ true _ _::_=>bF|_=>.normal)=.normal:=by
  show(match t' with|.call _ true _ _::_=>bF|_=>.normal)=.normal;split
  ·exact Bn.elim
  ·rfl
 rcases hr:s.runT X.P w #[]with⟨r,gm⟩
 unfold aP;simp only[if_true,hr,e1,e2,aJ,if_false,rz,kD];cases r with
 |halt h wx=>
  have gu:s.run X.P w=.halt h wx:=by rw[<-bi X.P s w #[],hr]
  obtain⟨qL,-⟩:=hs.2 w w' h wx hw gu;cases h with
  |panic v=>
   refine jm.after (jm.panic (ch:=[{v,recovered:=false}]) ?_);show((wt f t).raise _).mode=_;unfold cz;rw[show(wt f t).mode=.run from hm]
  |unsupported u=>
   cases u with
   |initOrder b=>exact qL.elim
   |_=>exact jm.after jm.ended
  |stuck m=>exact jm.after jm.ended
  |_=>exact qL.elim
 |ok n wx=>
  have gu:s.run X.P w=.ok n wx:=by rw[<-bi X.P s w #[],hr]
  obtain⟨ρ1,n',gD,gL,h1,h2,h3,h4,h5,h6,h7⟩:=hs.1 w w' n wx #[] hw gu;cases h6 with
  |value h=>exact jm.after (.inl ⟨_,[],_,[],_,_,rfl,rfl,Ai _⟩)
  |skip=>exact jm.after (.inl ⟨_,[],_,[],_,_,rfl,rfl,Ai _⟩)
  | @enter g gI xg _ _=>
   refine jm.after (.inl ⟨cN X.P g gI .normal,[wt f t],cN X.P g gI .normal,[wt f t'],wx,#[],?_,?_,.sw (.above (up:=[]) Kt)⟩)
   ·rcases t with _|⟨i,l⟩
    ·rfl
    ·cases i<;>first|rfl|exact hp.elim
   ·rcases t' with _|⟨i,l⟩
    ·rfl
    ·cases i<;>first|rfl|exact Bn.elim
  |round _ _ _ _ _=>exact jm.after (.inl ⟨_,[wt f t],_,[wt f t'],_,_,rfl,rfl,.sw (.above (up:=[]) Kt)⟩)
end
section
variable {X:Cx} {Fb:aZ->Bool} {wr:Bool} {sp:aZ->Bool} {ρ:Rel}
theorem Jc (ho:ops[i]?=some o) (hr:f.roundOf=none) (base:List ao) (w:ag):
  bd X.P true (wt f (.inRegion ops (i::td)::l)) base none w=aP X.P true (wt f (.inRegion ops (i::td)::l)) base none (co f.eval o) w:=by
 have vQ:(wt f (.inRegion ops (i::td)::l)).oper?=some o:=ho;have e:(wt f (.inRegion ops (i::td)::l)).eval=f.eval:=by funext x;cases x<;>rfl
 unfold bd;rw[vQ];dsimp only;rw[e];have gu:(wt f (.inRegion ops (i::td)::l)).roundOf=none:=hr;rw[gu]
theorem Tv {P:ay} {m:Bool} (h:((ops[i]?).map (aR · (bQ ops f.tmps))).getD false=true) (base:List ao) (w:ag):
  aq P m true (wt f (.inRegion ops (i::td)::l)) base none w=bd P true (wt f (.inRegion ops (i::td)::l)) base none w:=by
 unfold aq;exact if_pos h
theorem Tw {P:ay} {m:Bool} (h:¬((ops[i]?).map (aR · (bQ ops f.tmps))).getD false=true) (base:List ao) (w:ag):
  aq P m true (wt f (.inRegion ops (i::td)::l)) base none w=.go (G ((wt f (.inRegion ops (i::td)::l)).finish ae) base) w #[]:=by
 unfold aq;exact if_neg h
theorem Na {u:List Item} (v:aM):
  Aft k ((wt f (.inRegion ops (i::td)::u++st k)).finish v) [] ((wt f (.inRegion ops (i::td)::u++k)).finish v) []:=
 .sw (.bot (f:={f with tmps:=match(ops[i]?).bind (·.dst)with
        |some d=>f.tmps.setIfInBounds d v
        |none=>f.tmps}) (.code (.inRegion ops td) u))
theorem Tm {k0:List Item} (hk:k=.inRegion ops td::k0) (ho:ops[i]?=some o) (v:aM):
  Aft k ((wt f (.inRegion #[Sim.bare o] [0]::st k)).finish v) [] ((wt f (.inRegion ops (i::td)::k0)).finish v) []:=by
 have e:(wt f (.inRegion ops (i::td)::k0)).finish v=wt {f with tmps:=match o.dst with
        |some d=>f.tmps.setIfInBounds d v
        |none=>f.tmps} k:=by
  show(Frame.mk _ _ _ _ _ _ _:ao)=_;subst hk;unfold wt;simp only[ho,Option.bind_some];rfl
 rw[e];exact .ld (.late (f:={f with tmps:=match o.dst with
        |some d=>f.tmps.setIfInBounds d v
        |none=>f.tmps}) (o:=Sim.bare o))
theorem q6c (S:X.Set Fb wr sp) {base:List ao} {t:List Item} (Kt:TS k f.tmps t t') (hf:FR X Fb wr ρ (wt f t) eD) (hw:WR X ρ w w') (hm:f.mode=.run) (m:Bool) (oU:f.roundOf=none):
  jm k base (aq X.P m true (wt f t) base none w) (aq X.P m true (wt f t') base none w):=by
 have hk:f.kind=.normal:=hf.kind;have lX:=hf.eval S;have gQ:∀c,codeOk X.P X.P' Fb wr c=true->X.C c:=λc h=>(S.c c).2 h;have KG:∀t,(wt f t).eval=f.eval:=λt=>by funext x;cases x<;>rfl
 cases Kt with
 | @op ops i td k0 o e ho dU=>
  have vS:aR (Sim.bare o) (bQ #[Sim.bare o] f.tmps)=true:=rfl;have ht:IsR X Fb wr ρ (.inRegion #[Sim.bare o] [0]::st k) eD.todo:=hf.todo;have fI:nk X.P X.P' Fb wr (Sim.bare o)=true:=by
   generalize eD.todo=tf at ht;cases ht with
   |cons a b=>cases a with
    |inRegion td c=>exact Cw c (i:=0) rfl
  have ex:co f.eval (Sim.bare o)=co f.eval o:=rfl;have e1:aq X.P m true (wt f (.inRegion #[Sim.bare o] [0]::st k)) base none w=bd X.P true (wt f (.inRegion #[Sim.bare o] [0]::st k)) base none w:=by
   unfold aq;exact if_pos vS
  have e2:aq X.P m true (wt f (.inRegion ops (i::td)::k0)) base none w=bd X.P true (wt f (.inRegion ops (i::td)::k0)) base none w:=by
   unfold aq;refine if_pos ?_;show((ops[i]?).map (aR · (bQ ops f.tmps))).getD false=true;rw[ho];exact dU
  rw[e1,e2,Jc (o:=Sim.bare o) rfl oU,Jc ho oU,ex];refine Jm (t:=.inRegion #[Sim.bare o] [0]::st k) (t':=.inRegion ops (i::td)::k0) hw hm hk trivial trivial (λv=>Tm e ho v) (.op e ho dU) ?_ (s':=co eD.eval (Sim.bare o));rw[<-ex,<-KG];exact SS.execOp S.ok wr S.wrs _ fI _ _ lX
 | @code a u=>
  have ht:IsR X Fb wr ρ (a::(u++st k)) eD.todo:=hf.todo;show jm k base (aq X.P m true (wt f (a::(u++st k))) base none w) (aq X.P m true (wt f (a::(u++k))) base none w);generalize htd:eD.todo=tf at ht;cases ht with
  | @cons _ i' _ l' a b=>
  unfold aq;cases a with
  |inBlock id=>exact jm.to f u w #[]
  | @inLoop c=>exact jm.to f (.code c::.inLoop c::u) w #[]
  |inRangeFunc r=>exact jm.ended
  |beginRound=>
   have Vq:∀t,(wt f t).roundOf=none:=λ_=>oU;dsimp only;rw[Vq,Vq];refine Jm (t:=.beginRound::u++st k) (t':=.beginRound::u++k) hw hm hk trivial trivial (λv=>?_) (.code .beginRound u) (SS.dies (q9.kQ (q9.stuck _)):SS X ρ _ (do(none.elim (Go.stuck "beginRound: no round") bC:Sem Unit);Pure.pure .skip) _);cases u with
   |nil=>exact .ld (.land (f:=f) (.inl rfl))
   |cons a u=>exact .sw (.bot (f:=f) (.code a u))
  | @endRangeFunc l l' r=>
   dsimp only[wt];generalize (bR l).runT X.P w #[]=p0;obtain⟨r0,gm⟩:=p0;cases r0 with
   |halt h wx=>
    cases h with
    |panic v=>
     refine jm.after (jm.panic (ch:=[{v,recovered:=false}]) ?_);unfold cz;simp only[hm]
    |_=>exact jm.after jm.ended
   |ok j wx=>
    refine jm.after ?_;have:=jm.to (k:=k) (base:=base) f ((j.map Item.code).toList++u) wx #[];rw[aX,aX]at this;exact this
  | @inRegion ops td c=>
   cases td with
   |nil=>exact jm.to f u w #[]
   |cons i td=>
    show jm k base (aq X.P m true (wt f (.inRegion ops (i::td)::(u++st k))) base none w) (aq X.P m true (wt f (.inRegion ops (i::td)::(u++k))) base none w);by_cases dU:((ops[i]?).map (aR · (bQ ops f.tmps))).getD false=true
    ·rw[Tv dU,Tv dU];cases ho:ops[i]? with
     |none=>rw[ho]at dU;cases dU
     |some o=>
      have fI:=Cw c ho;rw[Jc ho oU,Jc ho oU];refine Jm (t:=.inRegion ops (i::td)::u++st k) (t':=.inRegion ops (i::td)::u++k) hw hm hk trivial trivial (λv=>Na (u:=u) v) (.code (.inRegion ops (i::td)) u) ?_ (s':=co eD.eval o);rw[<-KG];exact SS.execOp S.ok wr S.wrs o fI _ _ lX
    ·rw[Tw dU,Tw dU];exact .inl ⟨_,[],_,[],_,_,rfl,rfl,Na (u:=u) ae⟩
  | @code c hc=>
   cases c with
   |skip=>exact jm.to f u w #[]
   |ret=>
    dsimp only[wt];simp only[oU,if_true];rw[<-oU];exact jm.ret {f with mode:=.returning} (.code .ret::(u++st k)) (.code .ret::(u++k)) rfl w #[]
   |seq x y=>exact jm.to f (.code x::.code y::u) w #[]
   |cond x y z=>
    have Ho:∀t,bD {f with todo:=t} x=f.eval x:=λt=>congrFun (KG t) x;dsimp only[wt];rw[Ho (.code (.cond x y z)::(u++st k)),Ho (.code (.cond x y z)::(u++k))];generalize f.eval x=v;cases v<;>first|exact jm.ended|exact jm.to f (.code _::u) w #[]
   |block id c=>exact jm.to f (.code c::.inBlock id::u) w #[]
   |loop c=>exact jm.to f (.code c::.inLoop c::u) w #[]
   |exit id=>
    dsimp only[wt];simp only[oU];rw[<-oU,JI,JI,Jz];cases h1:aN id u with
    |some u'=>exact jm.to f u' w #[]
    |none=>
     cases h2:aN id k with
     |some k'=>exact .inl ⟨wt f (st k'),[],wt f k',[],w,#[],rfl,rfl,.ld (.land (.inr ⟨id,h2⟩))⟩
     |none=>exact jm.ended
   |region id ops draw=>
    cases draw with
    |false=>exact jm.to f (.inRegion ops _::u) w #[]
    |true=>
     dsimp only[wt];simp only[bT,aJ,if_false];rcases hr:(choose (.order f.fn id)).run X.P w with⟨t,wx⟩|⟨h,wx⟩
     ·exact jm.to f (.inRegion ops _::u) wx #[]
     ·exact jm.ended
   |rangeFunc g params assign body=>
    simp only[codeOk,bE]at hc;obtain⟨jW,mD,wo⟩:=hc;have hG:X.G f.fn:=hf.same;have uU:p9 ρ f.roundOf eD.roundOf:=hf.round;have uW:=SS.enterLoop hG (show zi X.F ρ f.tmps.toList eD.tmps.toList from hf.tmps) params (gQ _ mD) (gQ _ wo) uU;dsimp only[wt];generalize hr:(bI f.fn f.tmps params assign body f.roundOf).runT X.P w #[]=p0;obtain⟨r0,gm⟩:=p0;cases r0 with
    |halt h wx=>exact jm.after jm.ended
    |ok p wx=>
     obtain⟨l1,mark⟩:=p;obtain⟨ρ1,p',gD,gL,h1,h2,h3,h4,h5,⟨h6,o7⟩,h7⟩:=uH uW hw hr;obtain⟨wZ,jH⟩:=p';dsimp only at h6 o7;have P9:EvR X.F Fb ρ1 f.eval eD.eval:=by
      have:=(hf.mono h3.le).eval S;rw[KG]at this;exact this
     exact jm.after (Jm (f:={f with defers:=mark++f.defers}) (t:=.inRangeFunc l1::u++st k) (t':=.inRangeFunc l1::u++k) h2 hm hk trivial trivial
      (λv=>.sw (.bot (f:={f with defers:=mark++f.defers}) (.code (.endRangeFunc l1) u))) (.code (.inRangeFunc l1) u) (SS.iterate S.ok (λ_=>rfl) (λ_=>rfl) (P9.1 g jW) h6))
   |_=>simp[codeOk]at hc
end
def BcS (f:List ao->cn):Prop:=BaS f\/∃v w1 es,∀c base,f (c::base)=.go (G (Frame.finish c v) base) w1 es
theorem BcS.of {f:List ao->cn} (h:BaS f):BcS f:=.inl h
section
variable {X:Cx} {Fb:aZ->Bool} {wr:Bool} {sp:aZ->Bool} {ρ:Rel}
theorem Mw (hk:fr.kind=.normal) (jump:Option Code) (m:Bool):BcS (λbase=>tF X.P m fr base jump w):=by
 cases oU:fr.roundOf with
 |none=>exact .inl (Ji (up:=[]) hk jump m (by rw[oU];intro h;cases h))
 |some l=>
  obtain⟨fn,tmps,todo,defers,mode,kind,ro⟩:=fr;obtain rfl:kind=.normal:=hk;obtain rfl:ro=some l:=oU;unfold tF;dsimp only;rcases hr:(cf l jump).runT X.P w #[]with⟨r,gm⟩
  cases r with
  |halt h wx=>exact .inl (BaS.after (BaS.ended λ_=>⟨_,_,_,rfl⟩))
  |ok v wx=>exact .inr ⟨v,wx,seen X.P fn gm++#[],λc base=>rfl⟩
theorem q6b (S:X.Set Fb wr sp) (hf:FR X Fb wr ρ fr eD) (hw:WR X ρ w w') (hm:fr.mode=.run) (m:Bool):
  BcS (λbase=>aq X.P m true fr base none w):=by
 obtain⟨fn,tmps,todo,defers,mode,kind,ro⟩:=fr;obtain⟨fn',l7,todo',defers',qF,kind',lZ⟩:=eD;have ht:IsR X Fb wr ρ todo todo':=hf.todo;obtain rfl:fn'=fn:=hf.fn;have hk:kind=.normal:=hf.kind;have gQ:∀c,codeOk X.P X.P' Fb wr c=true->X.C c:=λc h=>(S.c c).2 h;unfold aq;cases ht with
 |nil=>exact Mw hk none m
 | @cons i i' l l' a b=>
  cases a with
  |inBlock id=>exact BcS.of<|BaS.go _ [] w #[] λ_=>rfl
  |inLoop c=>exact BcS.of<|BaS.go _ [] w #[] λ_=>rfl
  |inRangeFunc r=>exact BcS.of<|BaS.ended λ_=>⟨_,_,_,rfl⟩
  |beginRound=>
   refine BcS.of<|EI (up:=[]) (fr:=⟨fn',tmps,_,defers,mode,kind,ro⟩) (s':=do(lZ.elim (Go.stuck "beginRound: no round") bC:Sem Unit);Pure.pure .skip) hw hm hk ?_;have qY:p9 ρ ro lZ:=hf.round;rcases qY with⟨rfl,rfl⟩|⟨l,l',rfl,rfl,hl⟩
   ·exact SS.dies (q9.kQ (q9.stuck _))
   ·exact(SS.beginRound hl).bind λ_ _ _ _ _=>SS.pure .skip
  | @endRangeFunc l l' r=>
   dsimp only;rcases hr:(bR l).runT X.P w #[]with⟨r0,gm⟩
   cases r0 with
   |halt h wx=>
    cases h with
    |panic v=>exact BcS.of<|BaS.after (BaS.go _ [] wx #[] λ_=>rfl)
    |_=>exact BcS.of<|BaS.after (BaS.ended λ_=>⟨_,_,_,rfl⟩)
   |ok j wx=>exact BcS.of<|BaS.after (BaS.go _ [] wx #[] λ_=>rfl)
  | @inRegion ops td c=>
   cases td with
   |nil=>exact BcS.of<|BaS.go _ [] w #[] λ_=>rfl
   |cons i td=>
    dsimp only;by_cases dU:((ops[i]?).map (aR · (bQ ops tmps))).getD false=true
    ·simp only[if_pos dU];cases ho:ops[i]? with
     |none=>rw[ho]at dU;cases dU
     |some o=>
      have fI:=Cw c ho;have nd:∀c,o.op≠.defer c:=λc e=>by
       unfold nk at fI;rw[e]at fI;simp at fI
      have vQ:(⟨fn',tmps,.inRegion ops (i::td)::l,defers,mode,kind,ro⟩:ao).oper?=some o:=ho;have e:(λbase=>bd X.P true (⟨fn',tmps,.inRegion ops (i::td)::l,defers,mode,kind,ro⟩:ao) base none w)=
        λbase=>aP X.P true (⟨fn',tmps,.inRegion ops (i::td)::l,defers,mode,kind,ro⟩:ao) base none (co (bD (⟨fn',tmps,.inRegion ops (i::td)::l,defers,mode,kind,ro⟩:ao)) o) w:=by
       funext base;unfold bd;rw[vQ];dsimp only;split
       ·rename_i e;exact absurd e (nd _)
       ·rfl
      rw[e];exact BcS.of<|EI (up:=[]) hw hm hk (SS.execOp S.ok wr S.wrs o fI _ _ (hf.eval S))
    ·simp only[if_neg dU];exact BcS.of<|BaS.go _ [] w #[] λ_=>rfl
  | @code c hc=>
   cases c with
   |skip=>exact BcS.of<|BaS.go _ [] w #[] λ_=>rfl
   |ret=>exact Mw (fr:=⟨fn',tmps,_,defers,mode,kind,ro⟩) hk (some .ret) m
   |seq x y=>exact BcS.of<|BaS.go _ [] w #[] λ_=>rfl
   |cond x y z=>
    dsimp only;generalize bD _ x=v;cases v<;>first|exact BcS.of<|BaS.go _ [] w #[] (λ_=>rfl)|exact BcS.of<|BaS.ended λ_=>⟨_,_,_,rfl⟩
   |block id c=>exact BcS.of<|BaS.go _ [] w #[] λ_=>rfl
   |loop c=>exact BcS.of<|BaS.go _ [] w #[] λ_=>rfl
   |exit id=>
    dsimp only;cases aN id l with
    |none=>exact Mw (fr:=⟨fn',tmps,_,defers,mode,kind,ro⟩) hk (some (.exit id)) m
    |some k=>exact BcS.of<|BaS.go _ [] w #[] λ_=>rfl
   |region id ops draw=>
    cases draw with
    |false=>exact BcS.of<|BaS.go _ [] w #[] λ_=>rfl
    |true=>
     dsimp only;simp only[bT,aJ,if_false];rcases hr:(choose (.order fn' id)).run X.P w with⟨t,wx⟩|⟨h,wx⟩
     ·exact BcS.of<|BaS.go _ [] wx #[] λ_=>rfl
     ·exact BcS.of<|BaS.ended λ_=>⟨_,_,_,rfl⟩
   |rangeFunc f params assign body=>
    simp only[codeOk,bE]at hc;obtain⟨jW,mD,wo⟩:=hc;have hG:X.G fn':=hf.same;dsimp only;rcases hr:(bI fn' tmps params assign body ro).runT X.P w #[]with⟨r0,gm⟩
    have uW:=SS.enterLoop hG hf.tmps params (gQ _ mD) (gQ _ wo) hf.round;cases r0 with
    |halt h wx=>exact BcS.of<|BaS.after (BaS.ended λ_=>⟨_,_,_,rfl⟩)
    |ok p wx=>
     obtain⟨l1,mark⟩:=p;obtain⟨ρ1,p',gD,gL,h1,h2,h3,h4,h5,⟨h6,o7⟩,h7⟩:=uH uW hw hr;obtain⟨wZ,jH⟩:=p';dsimp only at h6 o7;have fM:=hf.mono h3.le;have uV:FR X Fb wr ρ1 ⟨fn',tmps,.inRangeFunc l1::l,mark++defers,mode,kind,ro⟩ ⟨fn',l7,.inRangeFunc wZ::l',jH++defers',qF,kind',lZ⟩:=
      ⟨fM.fn,fM.same,fM.tmps,.cons (.inRangeFunc h6) (b.mono h3.le),o7.append fM.defers,fM.mode,fM.run,fM.kind,fM.kind',fM.round⟩
     exact BcS.of<|BaS.after (EI (up:=[]) (fr:=⟨fn',tmps,.inRangeFunc l1::l,mark++defers,mode,kind,ro⟩) h2 hm hk (SS.iterate S.ok (λ_=>rfl) (λ_=>rfl) ((uV.eval S).1 f jW) h6))
   |_=>simp[codeOk]at hc
theorem Yi (S:X.Set Fb wr sp) (hf:FR X Fb wr ρ fr eD) (hm:fr.mode=.returning) (m:Bool):BcS (λbase=>unwind X.P m fr base none w):=by
 by_cases hd:fr.defers=[]
 ·obtain⟨fn,tmps,todo,defers,mode,kind,ro⟩:=fr;obtain rfl:mode=.returning:=hm;obtain rfl:kind=.normal:=hf.kind;obtain rfl:defers=[]:=hd;obtain⟨f,q1,q2⟩:=hf.same;have q1:X.P.funcs[fn]?=some f:=q1;unfold unwind;dsimp only;rw[q1];dsimp only;rcases hr:(results f tmps).runT X.P w #[]with⟨r0,gm⟩
  cases r0 with
  |halt h wx=>cases h<;>exact .inl (BaS.after (BaS.ended λ_=>⟨_,_,_,rfl⟩))
  |ok v wx=>exact .inr ⟨v,wx,_,λc base=>rfl⟩
 ·exact .inl (MU (up:=[]) S hf hm m (.inl hd))
theorem q93 (S:X.Set Fb wr sp) (hf:FR X Fb wr ρ fr eD) (hw:WR X ρ w w') (m:Bool):BcS (λbase=>ax X.P m (G fr base) w):=by
 rcases hf.run with hm|hm
 ·have e:(λbase=>ax X.P m (G fr base) w)=λbase=>aq X.P m true fr base none w:=funext λbase=>tN _ _ _ _ _ hm;rw[e];exact q6b S hf hw hm m
 ·have e:(λbase=>ax X.P m (G fr base) w)=λbase=>unwind X.P m fr base none w:=funext λbase=>yj _ _ _ _ _ hm;rw[e];exact Yi S hf hm m
theorem Z5 {t:List Item} (h:TS k f.tmps t t') (v:aM):Aft k ((wt f t).finish v) [] ((wt f t').finish v) []:=by
 cases h with
 |op e ho hw=>exact Tm e ho v
 |code a u=>
  cases a with
  |inRegion ops td=>
   cases td with
   |nil=>exact .sw (.bot (f:=f) (.code (.inRegion ops []) u))
   |cons i td=>exact Na (u:=u) v
  |inRangeFunc l=>exact .sw (.bot (f:=f) (.code (.endRangeFunc l) u))
  |beginRound=>
   cases u with
   |nil=>exact .ld (.land (f:=f) (.inl rfl))
   |cons a u=>exact .sw (.bot (f:=f) (.code a u))
  |call d wrapper resume saved=>exact .sw (.bot (f:=f) (.code _ u))
  |code c=>exact .sw (.bot (f:=f) (.code (.code c) u))
  |inBlock id=>exact .sw (.bot (f:=f) (.code (.inBlock id) u))
  |inLoop c=>exact .sw (.bot (f:=f) (.code (.inLoop c) u))
  |inScope c=>exact .sw (.bot (f:=f) (.code (.inScope c) u))
  |endRangeFunc c=>exact .sw (.bot (f:=f) (.code (.endRangeFunc c) u))
  |_=>
   cases u with
   |nil=>exact .ld (.land (f:={f with tmps:=#[v]}) (.inl rfl))
   |cons a u=>exact .sw (.bot (f:={f with tmps:=#[v]}) (.code a u))
theorem Yh {base:List ao} {t:List Item} (hf:FR X Fb wr ρ (wt f t) eD) (hm:f.mode=.returning) (m:Bool) (hd:f.defers≠[]):
  jm k base (unwind X.P m (wt f t) base none w) (unwind X.P m (wt f t') base none w):=by
 obtain⟨fn,tmps,todo,defers,mode,kind,ro⟩:=f;obtain rfl:mode=.returning:=hm;obtain rfl:kind=.normal:=hf.kind;have Wz:DsR ρ defers eD.defers:=hf.defers;generalize eD.defers=ds at Wz;cases Wz with
 |nil=>exact absurd rfl hd
 | @cons r r' l l' a b=>
  unfold unwind wt;dsimp only;generalize (bO r).runT X.P w #[]=p0;obtain⟨r0,gm⟩:=p0;cases r0 with
  |halt h wx=>exact jm.after jm.ended
  |ok v wx=>exact jm.after (jm.ret ⟨fn,tmps,[],_,.returning,.normal,ro⟩ t t' rfl wx #[])
theorem q95 (S:X.Set Fb wr sp) {base:List ao} {gr:ao} {gup:List ao} (zH:Sw k fr up gr gup) (hf:FR X Fb wr ρ fr eD) (hw:WR X ρ w w') (m:Bool) (hB:Bot (fr::up)) (hgo:fr.mode=.run\/fr.defers≠[]\/up≠[]):
  jm k base (ax X.P m (G fr (up++base)) w) (ax X.P m (G gr (gup++base)) w):=by
 have ret:∀{f:ao} {t t':List Item},f.mode=.returning->FR X Fb wr ρ (wt f t) eD->f.defers≠[]->jm k base (ax X.P m (G (wt f t) base) w) (ax X.P m (G (wt f t') base) w):=λ{f t t'} hm hf hd=>by
  rw[yj _ _ _ _ _ (show(wt f t).mode=.returning from hm),yj _ _ _ _ _ (show(wt f t').mode=.returning from hm)];exact Yh hf hm m hd
 cases zH with
 | @ret f t t' hm=>
  refine ret hm hf ?_;rcases hgo with h|h|h
  ·rw[show(wt f t).mode=.returning from hm]at h;cases h
  ·exact h
  ·exact absurd rfl h
 | @bot f t t' h=>
  rcases hf.run with hm|hm
  ·have hm:f.mode=.run:=hm;have oU:f.roundOf=none:=hB (wt f t) (by simp);show jm k base (ax X.P m (G (wt f t) base) w) (ax X.P m (G (wt f t') base) w);rw[tN _ _ _ _ _ (show(wt f t).mode=.run from hm),tN _ _ _ _ _ (show(wt f t').mode=.run from hm)];exact q6c S h hf hw hm m oU
  ·have hm:f.mode=.returning:=hm;refine ret hm hf ?_;rcases hgo with h|h|h
   ·rw[show(wt f t).mode=.returning from hm]at h;cases h
   ·exact h
   ·exact absurd rfl h
 | @above _ up f t t' h=>
  rw[aX,aX];have go:∀{j5:ao} {up1:List ao} {w1:ag} {es:Array bp},(∀base,ax X.P m (G fr (up++base)) w=.go (G j5 (up1++base)) w1 es)->
    jm k base (ax X.P m (G fr (up++([wt f t]++base))) w) (ax X.P m (G fr (up++([wt f t']++base))) w):=λ{j5 up1 w1 es} e=>
   .inl ⟨j5,up1++[wt f t],j5,up1++[wt f t'],w1,es,by rw[e,aX],by rw[e,aX],.sw (.above h)⟩
  by_cases hu:up=[]
  ·subst hu;rcases q93 S hf hw m with(⟨j5,up1,w1,es,e⟩|e)|⟨v,w1,es,e⟩
   ·exact go e
   ·exact .inr (e _)
   ·exact .inl ⟨_,[],_,[],w1,es,e _ _,e _ _,Z5 h v⟩
  ·have hgo:BaS (λbase=>ax X.P m (G fr (up++base)) w):=by
    rcases hf.run with hm|hm
    ·have e:(λbase=>ax X.P m (G fr (up++base)) w)=λbase=>aq X.P m true fr (up++base) none w:=funext λbase=>tN _ _ _ _ _ hm;rw[e];exact Rh S hf hw hm m λ_=>hu
    ·have e:(λbase=>ax X.P m (G fr (up++base)) w)=λbase=>unwind X.P m fr (up++base) none w:=funext λbase=>yj _ _ _ _ _ hm;rw[e];exact MU S hf hm m (.inr hu)
   rcases hgo with⟨j5,up1,w1,es,e⟩|e
   ·exact go e
   ·exact .inr (e _)
end
end Sim
namespace Ph
open Go Go.Conc Go.ConcN Sim
section
variable {X:Cx} {Fb:aZ->Bool} {SB:Blocks} {Q:ao->List ao->ag->Prop}
theorem q4p {wr:Bool} {sp:aZ->Bool} (S:X.Set Fb wr sp) (hf:FR X Fb wr ρ fr eD) (hw:WR X ρ w w') (m:Bool) (eB:fr.roundOf.isSome->cs≠[]) (hgo:fr.mode=.run\/fr.defers≠[]\/cs≠[]):
  ShS (λw=>ax X.P m (G fr cs) w) w:=by
 rcases hf.run with hm|hm
 ·have e:(λw=>ax X.P m (G fr cs) w)=λw=>aq X.P m true fr cs none w:=funext λw=>tN _ _ _ _ _ hm;rw[e];exact Rf S hf hw hm m eB
 ·have e:(λw=>ax X.P m (G fr cs) w)=λw=>unwind X.P m fr cs none w:=funext λw=>yj _ _ _ _ _ hm;rw[e];exact SE S hf hw hm m (hgo.resolve_left (by rw[hm];intro h;cases h))
theorem qte (pJ:X.P'=X.P) (S:X.Set Fb true (λ_=>false)) (hQ:∀fr cs w,Q fr cs w->∀ch,fr.mode≠.panicking ch) {base:List ao} {wc:ag}
  {nf:Tape->ao} {nc:Tape->List ao} {nw:Tape->ag} {ne:Tape->Array bp} (dn:∀τ:Tape,(∀i q,i<w.drawn->τ i q=w.tape i q)->ax X.P true (G fr (up++[c0])) {w with tape:=τ}=.go (G (nf τ) (nc τ)) (nw τ) (ne τ))
  (hm:∀τ:Tape,(∀i q,i<w.drawn->τ i q=w.tape i q)->mQ X.P Q (nf τ) (nc τ) (nw τ))
  (hf:FR X Fb true ρ fr fr) (hu:FsR X Fb true ρ up up) (hw:WN X ρ w wc) (hs:Same w wc) (hn:NB w) (hB:Bot (fr::up)):
  (fr.mode=.run\/fr.defers≠[]\/up≠[])/\∀d,∃j5 up1 w1 ρ1 es,ax X.P true (G fr (up++base)) (wc.at d)=.go (G j5 (up1++base)) (shf wc.tape (w.drawn,d) w1) es/\
    (∃τ,(Agree w τ)/\j5=nf τ/\up1++[c0]=nc τ/\w1=nw τ)/\FR X Fb true ρ1 j5 j5/\FsR X Fb true ρ1 up1 up1/\WR X ρ1 w1 (shf wc.tape (w.drawn,d) w1)/\ρ.le ρ1/\NB w1/\Bot (j5::up1)/\
    tJ (rng ρ) (own X ρ) (wc.at d) (rng ρ1) (own X ρ1) (shf wc.tape (w.drawn,d) w1) es:=by
 have P7:fr.mode=.run\/fr.defers≠[]\/up≠[]:=by
  refine aW λhgo=>?_;have ol:up=[]:=aW λh=>hgo (.inr (.inr h));subst ol;obtain⟨τ0,WE,k0⟩:=hw;have hst:ax X.P true (G fr [c0]) (re w τ0)=.go (G (nf τ0) (nc τ0)) (nw τ0) (ne τ0):=dn τ0 WE;obtain⟨h1,h2,h3⟩:=JC S hf k0 hn (λh=>hgo (h.imp id .inl)) hst;exact CX hQ (hm τ0 WE) h1 h2 h3
 refine⟨P7,λd=>?_⟩
 let τ:Tape:=λi q=>if i<w.drawn then w.tape i q else wc.tape (i-w.drawn+d) q
 have ha:Agree w τ:=λi q hi=>if_pos hi;have rQ:Fit wc.tape (w.drawn,d) (re w τ):=⟨ji _,λi q hi=>by
  have fe:¬i<w.drawn:=Nat.not_lt.2 hi
  exact(if_neg fe).symm⟩
 have OW:shf wc.tape (w.drawn,d) (re w τ)=wc.at d:=by
  have h1:=hs.heap;have h2:=hs.os;have h3:=hs.output;obtain⟨hp,tp,dr,os,out⟩:=wc;simp only at h1 h2 h3;subst h1;subst h2;subst h3;simp[shf,re,World.at]
 have qX:WR X ρ (re w τ) (wc.at d):=by
  obtain⟨τ0,_,k⟩:=hw;refine⟨k.fn,k.inj,k.heap,λi q=>?_,k.sh⟩;have h1:¬w.drawn+i<w.drawn:=by omega
  have h2:w.drawn+i-w.drawn+d=d+i:=by omega
  have h3:τ (w.drawn+i) q=wc.tape (w.drawn+i-w.drawn+d) q:=if_neg h1;rw[h2]at h3;exact h3
 have hst:ax X.P true (G fr (up++[c0])) (re w τ)=.go (G (nf τ) (nc τ)) (nw τ) (ne τ):=dn τ ha;by_cases hgo:fr.mode=.run\/fr.defers≠[]\/up≠[]
 ·rcases QS S hf qX true hB hgo with⟨j5,up1,w1,es,zS⟩|zS
  ·have e1:ax X.P true (G fr (up++[c0])) (re w τ)=_:=zS [c0];rw[hst]at e1;have e2:ax X.P true (G fr (up++base)) (re w τ)=_:=zS base;have eB:fr.roundOf.isSome->up++base≠[]:=λh=>by
    have ol:up≠[]:=λhu=>by
     subst hu;rw[hB fr (by simp)]at h;cases h
    simp[ol]
   have PO:fr.mode=.run\/fr.defers≠[]\/up++base≠[]:=hgo.imp id (λh=>h.imp id λh=>by simp[h]);obtain⟨e3,jh7⟩:=q4p S (cs:=up++base) hf qX true eB PO _ _ _ e2 wc.tape (w.drawn,d) rQ;rw[OW]at e3;have e3:ax X.P true (G fr (up++base)) (wc.at d)=_:=e3;have out:=Jr S (base:=base) (base':=base) hf hu qX hn hB hgo true true;rw[pJ,e3,e2]at out;generalize hg:GStep.go (G j5 (up1++base)) w1 es=s at out;cases out with
   | @nice f1 OU u1 Lf ρ1 x1 Lc gL NM e h1 h2 h3 h4 h5 h6 h7 h8=>
    have jG:j5=f1/\up1++base=u1++base/\w1=x1:=by
     injection hg with a b c;injection a with a1 a2;exact⟨a1,a2,b⟩
    obtain⟨rfl,oq,rfl⟩:=jG;obtain rfl:=aE oq;have Ov:j5=OU/\up1++base=Lf++base/\shf wc.tape (w.drawn,d) w1=Lc/\es=NM:=by
     injection e with a b c;injection a with a1 a2;exact⟨a1,a2,b,c⟩
    obtain⟨rfl,Bh,rfl,rfl⟩:=Ov;obtain rfl:=aE Bh;have rG:nf τ=j5/\nc τ=up1++[c0]/\nw τ=w1:=by
     injection e1 with a b c;injection a with a1 a2;exact⟨a1,a2,b⟩
    exact⟨j5,up1,w1,ρ1,es,e3,⟨τ,ha,rG.1.symm,rG.2.1.symm,rG.2.2.symm⟩,h1,h2,h3,h4.le,h7,h8,Gf qX h4 h3 h6⟩
   |special k1 k2=>cases k2
   | @panic f1 u1 ch x1 gL h1 h2=>
    exfalso;have jG:j5={f1 with mode:=.panicking ch}/\up1++base=u1++base/\w1=x1:=by
     injection hg with a b c;injection a with a1 a2;exact⟨a1,a2,b⟩
    obtain⟨rfl,oq,rfl⟩:=jG;obtain rfl:=aE oq;have rG:nf τ={f1 with mode:=.panicking ch}/\nc τ=up1++[c0]/\nw τ=w1:=by
     injection e1 with a b c;injection a with a1 a2;exact⟨a1,a2,b⟩
    have zP:=hm τ ha;rw[rG.1,rG.2.1,rG.2.2]at zP;exact CX hQ zP trivial ⟨_,rfl⟩ (.inl ⟨_,rfl,h1,h2⟩)
   |ended=>cases hg
  ·exact absurd hst (zS _ _ _ _)
 ·exfalso;have ol:up=[]:=aW λh=>hgo (.inr (.inr h));subst ol;obtain⟨h1,h2,h3⟩:=JC S hf qX hn (λh=>hgo (h.imp id .inl)) hst;exact CX hQ (hm τ ha) h1 h2 h3
inductive Ck (n:Nat):List Item->Prop
 |a (r:List Item):Ck n (.code (.block n .skip)::.inLoop (.block n .skip)::r)
 |b (r:List Item):Ck n (.code .skip::.inBlock n::.inLoop (.block n .skip)::r)
 |c (r:List Item):Ck n (.inBlock n::.inLoop (.block n .skip)::r)
 |d (r:List Item):Ck n (.inLoop (.block n .skip)::r)
def yJ (k:List Item) (Q:ao->List ao->ag->Prop):Prop:= ∀fr cs w,Q fr cs w->cs=[c0]/\(fr.mode=.returning\/(fr.mode=.run/\∃k',fr.todo=st k'/\(k'=k\/∃id,aN id k=some k')))
theorem yJ.mode (h:yJ k Q):∀fr cs w,Q fr cs w->∀ch,fr.mode≠.panicking ch:=λfr cs w hq ch e=>by
 rcases(h _ _ _ hq).2 with h|⟨h,_⟩<;>rw[e]at h<;>cases h
theorem ZH (hQ:yJ k Q):∀{fr:ao} {cs:List ao} {w:ag},mQ X.P Q fr cs w->fr.mode=.run->Ck n fr.todo->False:=by
 intro fr cs w h;induction h with
 | @done fr cs w hq=>
  intro hm hl;rcases(hQ _ _ _ hq).2 with h|⟨_,k',h,_⟩
  ·rw[hm]at h;cases h
  ·rw[h,uD]at hl;cases hl
 | @step fr cs w nf nc nw ne hs _ ih=>
  intro hm hl;have h1:ax X.P true (G fr cs) w=.go (G (nf w.tape) (nc w.tape)) (nw w.tape) (ne w.tape):=hs w.tape (λ_ _ _=>rfl);rw[tN _ _ _ _ _ hm]at h1;have fin:∀{t:List Item},aq X.P true true fr cs none w=.go (G (wt fr t) cs) w #[]->Ck n t->False:=λ{t} e uR=>by
   rw[e]at h1;injection h1 with h1 _ _;injection h1 with h1 _;refine ih w.tape (λ_ _ _=>rfl) ?_ ?_
   ·rw[<-h1];exact hm
   ·rw[<-h1];exact uR
  obtain⟨fn,tmps,todo,defers,mode,kind,ro⟩:=fr;change Ck n todo at hl;cases hl with
  |a r=>exact fin rfl (.b r)
  |b r=>exact fin rfl (.c r)
  |c r=>exact fin rfl (.d r)
  |d r=>exact fin rfl (.a r)
theorem SY (hQ:yJ k Q) {k':List Item} (h:mQ X.P Q (wt f (st k')) cs w) (hm:f.mode=.run):Q (wt f (st k')) cs w:=by
 generalize kR:wt f (st k')=fr at h;cases h with
 |done hq=>exact hq
 |step nf nc nw ne hs hn=>
  exfalso;have h1:ax X.P true (G fr cs) w=.go (G (nf w.tape) (nc w.tape)) (nw w.tape) (ne w.tape):=hs w.tape (λ_ _ _=>rfl);subst kR;rw[tN _ _ _ _ _ (show(wt f (st k')).mode=.run from hm),uD]at h1;have e:aq X.P true true (wt f (stop k'.length::sf k')) cs none w=.go (G (wt f (.code (.block k'.length .skip)::.inLoop (.block k'.length .skip)::sf k')) cs) w #[]:=rfl;rw[e]at h1;injection h1 with h1 _ _;injection h1 with h1 _;refine ZH hQ (n:=k'.length) (hn w.tape (λ_ _ _=>rfl)) ?_ ?_
  ·rw[<-h1];exact hm
  ·rw[<-h1];exact .a _
theorem YI (hQ:yJ k Q) (h:mQ X.P Q (wt f (.inRegion #[o] []::st k)) cs w) (hm:f.mode=.run):Q (wt f (st k)) cs w:=by
 generalize kR:wt f (.inRegion #[o] []::st k)=fr at h;cases h with
 |done hq=>
  exfalso;subst kR;rcases(hQ _ _ _ hq).2 with h|⟨_,k',h,_⟩
  ·have h:f.mode=.returning:=h;rw[hm]at h;cases h
  ·have h:Item.inRegion #[o] []::st k=st k':=h;rw[uD k']at h;injection h with h _;cases h
 |step nf nc nw ne hs hn=>
  have h1:ax X.P true (G fr cs) w=.go (G (nf w.tape) (nc w.tape)) (nw w.tape) (ne w.tape):=hs w.tape (λ_ _ _=>rfl);subst kR;rw[tN _ _ _ _ _ (show(wt f (.inRegion #[o] []::st k)).mode=.run from hm)]at h1;have e:aq X.P true true (wt f (.inRegion #[o] []::st k)) cs none w=.go (G (wt f (st k)) cs) w #[]:=rfl;rw[e]at h1;injection h1 with h1 h2 _;injection h1 with h1 h3;have:=hn w.tape (λ_ _ _=>rfl);rw[<-h1,<-h2,<-h3]at this;exact SY hQ this hm
end
end Ph
end Go.Proofs.YtkpekiajdlolnabGreat
