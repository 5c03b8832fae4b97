/- PROVED: part 2 of the claim's ground. Conditions: those that each theorem names. -/
import Derived.Test.YtkpekiajdlolnabGreatM01
import Derived.Conc.WgGenN3
import Derived.Conc.CrowdStepW
import Derived.Conc.CrowdStepC2
import Derived.Test.YtkpekiajdlolnabGreatChecked
set_option linter.unusedVariables false
set_option linter.unusedSimpArgs false
set_option maxRecDepth 100000
set_option maxHeartbeats 16000000
variable{A:Go.Goroutine->Go.World->Prop} {B Wg i j n r:Nat} {a' g g':Go.Goroutine} {cs up:List Go.Frame} {e:Go.Event} {es:Array Go.Event} {f fr fw:Go.Frame} {fn:Go.FuncId} {k l t':List Go.Item} {o:Go.Oper} {ops:Array Go.Oper} {t:Go.Trace} {td:List Nat} {w w':Go.World} {δ:Nat×Nat} {ρ:Go.Proofs.YtkpekiajdlolnabGreat.Sim.Rel}
open Go.Proofs.Tryz
open Go renaming Goroutine→aa,undef→ae,World→ag,Frame→al,stepG→aw,Program→ax,deafBehind→ay,Trace→aD,TypeId→aJ,Value→aK,exitTo→aL,FuncId→aW,Event→bm,HappensBefore→bF,yielded→bQ,GStep→cu,execOp→cx,setCell_eq_setRow→cy
open Go.Conc renaming stepG_region_end→ac,stepG_seq→ah,mem_ofEvents→aj,stepG_skip→aG,aside_setCell→aI,getElem?_append_cases→aS,stepG_ret'→aV,runT_crowd_go→bp,Deaf_other→bz,Leavers→bG,woken_quitsD→bI,stepG_load_atomic→bP,touch_of→cg,ofEvent_cell0→cq
open Go.MemAct renaming ofEvent→ai,touch?→aM
open Go.ConcN renaming upd_same→ak,upd_ne→az,get_map_set→bj,WgLive→bq,get_map_set_same→bA,PayAt→co
open Go.stepG renaming exec→am,apply→aN,oper→aX
open Option renaming map_eq_some_iff→ao,getD_some→bX,map_some→ce
open Nat renaming not_lt_zero→aq,eq_zero_or_pos→aQ,le_of_lt→bJ,le_succ_of_le→cA,le_of_not_lt→cE,lt_irrefl→cJ,lt_or_ge→cP
open Go.MemOp renaming ofEvents→au
open Go.Conc.Goes renaming cases→aA,stop→aE,step→cC
open Option.some renaming injEq→aB
open List renaming append_cancel_right→aC,append_assoc→aU,mem_toArray→aY,mem_singleton→aZ
open Array renaming getElem?_eq_getElem→aF,mem_of_getElem?→bi,getElem?_push_lt→bw,getElem?_map→bK,mem_append→bZ
open Bool renaming false_eq_true→aH,and_eq_true→bD,not_true→bV
open Go.GStep renaming after→aO
open Go.Region renaming wanted→aP
open Prod.Lex renaming right→aR,left→bh
open Classical renaming byContradiction→aT
open Go.Sem renaming runT_fst→bg,runT→cj
open Go.ConcN.RW renaming refl→bk
open Go.Instr renaming beginRound→bB,enterLoop→bH,takeDeferred→bO,endLoop→bR,endRound→cn
open Go.Frame renaming eval→bC,raise→cG,enter→cU
open Go.CallKind renaming wrapped→bE,early→bN
open Go.Kernel renaming perform→bL
open Go.Trace renaming g?→bY
namespace Go.Proofs.YtkpekiajdlolnabGreat
namespace Ph
section
open Go Go.Conc Go.ConcN Go.RowKit Go.Conc.Lib Go.ConcR.Gen Go.ConcN.Gen Sim
open Go.ConcR (KK wgBlock WgAt stA smA rd wr mk DC0)
section
variable {L:WgLink}
structure RM (ty:aJ) (Wg:Nat) (F:Blocks) (w w1:ag):Prop where
 ext:Ext F w w1
 live:bq ty Wg w->bq ty Wg w1
theorem qa {ty:aJ} {F:Blocks} {w1:ag} (h:bq ty Wg w) (r:RM ty Wg F w w1):bq ty Wg w1:=r.live h
theorem sI {ty:aJ} {F:Blocks} (a b c:ag) (h:RM ty Wg F a b) (k:RM ty Wg F b c):RM ty Wg F a c:=⟨h.ext.trans k.ext,k.live∘h.live⟩
section
variable (P:ax) (ty:aJ) (Wg:Nat) (F:Blocks)
def MG (Stop:aa->ag->Prop) (g:aa) (w:ag):Prop:= ∃m,Goes P true (RM ty Wg F) DC0 Stop m g w
def jQ (m:Mark) (K:aa->ag->Prop) (g:aa) (w:ag):Prop:=
 g.status=.running/\∃g',aw P true g w=.go g' w #[mk m]/\K g' w
def xE (K:aa->ag->Prop) (g:aa) (w:ag):Prop:=
 g.status=.running/\∀v:Nat,v<2147483647->WgAt ty Wg w (v*KK) 0->
  ∃g',aw P true g w=.go g' (w.setCell (stA Wg) (.int .u64 ((v+1)*KK))) #[rd (stA Wg),wr (stA Wg)]/\
   ((v=0/\MG P ty Wg F (jQ P (.read (smA Wg)) (MG P ty Wg F (jQ P .enable K))) g' (w.setCell (stA Wg) (.int .u64 ((v+1)*KK))))\/
    (v≠0/\MG P ty Wg F (jQ P .enable K) g' (w.setCell (stA Wg) (.int .u64 ((v+1)*KK)))))
end
section
variable (P:ax) (ty:aJ) (Wg:Nat) (F:Blocks)
def Dw (K:aa->ag->Prop):aa->ag->Prop:=MG P ty Wg F (jQ P .enable (MG P ty Wg F (jQ P (.acquire (stA Wg)) K)))
def Dx (K:aa->ag->Prop) (g:aa) (w:ag):Prop:=
 g.status=.running/\(WgAt ty Wg w 0 0->∃g',aw P true g w=.go g' w #[rd (stA Wg)]/\Dw P ty Wg F K g' w)
def yZ (K:aa->ag->Prop) (g:aa) (w:ag):Prop:=
 g.status=.running/\g.offers=none/\((∃st,WgAt ty Wg w st 0)->aw P true g w=.go {g with status:=.blocked} w #[])/\
  (WgAt ty Wg w 0 1->∃g',aw P true g w=.go g' (w.setCell (smA Wg) (.int .u32 0)) (semEvents (smA Wg))/\MG P ty Wg F (Dx P ty Wg F K) g' (w.setCell (smA Wg) (.int .u32 0)))
def Dy (A:aa->ag->Prop) (K:aa->ag->Prop) (vs:Nat) (g:aa) (w:ag):Prop:=
 g.status=.running/\∀v:Nat,v<2147483648->WgAt ty Wg w (v*KK) 0->
  (v=vs->∃g',aw P true g w=.go g' (w.setCell (stA Wg) (.int .u64 (v*KK+1))) #[rd (stA Wg),wr (stA Wg)]/\MG P ty Wg F (jQ P (.write (smA Wg)) (MG P ty Wg F (yZ P ty Wg F K))) g' (w.setCell (stA Wg) (.int .u64 (v*KK+1))))/\
  (v≠vs->∃g',aw P true g w=.go g' w #[rd (stA Wg)]/\MG P ty Wg F A g' w)
def rU (A:aa->ag->Prop) (K:aa->ag->Prop) (g:aa) (w:ag):Prop:=
 g.status=.running/\∀v:Nat,v<2147483648->WgAt ty Wg w (v*KK) 0->∃g',aw P true g w=.go g' w #[rd (stA Wg)]/\
  (v=0->Dw P ty Wg F K g' w)/\(v≠0->MG P ty Wg F (Dy P ty Wg F A K v) g' w)
end
def Anch (L:WgLink) (Wg:Nat) (c:al) (cs:List al) (g:aa) (w:ag):Prop:=
 ∃T:Array aK,g=G ((base L.wait).at ⟨T,[]⟩ [.code (L7 L),.inLoop (L7 L),.inBlock 0]) (c::cs)/\T.size=84/\T[0]?=some (.pointer (some ⟨Wg,0,none⟩))/\bq L.tWg Wg w
section
variable {P:ax} {Wg:Nat} {F:Blocks} {b₀:al} {a₀:Act} {ops₀:Array Oper} {i₀:Nat} {rest₀:List Nat} {k₀:List Item} {cs:List al}
theorem add1 (H:WgLib P L) {K:aa->ag->Prop} {mT:Nat}
  (hT:∀w,bq L.tWg Wg w->Goes P true (RM L.tWg Wg F) DC0 K mT (G (b₀.at (a₀.put ((ops₀[i₀]?).bind (·.dst)) (.tuple #[])) (.inRegion ops₀ rest₀::k₀)) cs) w)
  (w:ag) (hF:bq L.tWg Wg w):
  MG P L.tWg Wg F (jQ P .disable (MG P L.tWg Wg F (xE P L.tWg Wg F (MG P L.tWg Wg F K))))
   (G ((base L.add).at ⟨#[.pointer (some ⟨Wg,0,none⟩),.int .i64 1,ae,ae,ae,ae,ae,ae,ae,ae,ae,ae,ae,ae,ae,ae,ae,ae,ae,ae,ae,ae,ae,ae,ae,ae,ae,ae,ae,ae,ae,ae,ae,ae,ae,ae,ae,ae,ae,ae,ae,ae,ae,ae,ae,ae,ae,ae,ae,ae,ae,ae,ae,ae,ae,ae,ae,ae,ae,ae,ae,ae,ae,ae,ae,ae,ae,ae,ae,ae,ae,ae,ae,ae,ae,ae,ae,ae,ae,ae,ae,ae,ae,ae,ae,ae,ae,ae,ae,ae,ae,ae,ae,ae,ae,ae,ae,ae,ae,ae,ae,ae,ae,ae,ae,ae,ae,ae,ae,ae,ae,ae,ae,ae,ae,ae,ae],[]⟩ [.code (body_add L)]) (b₀.at a₀ (.inRegion ops₀ (i₀::rest₀)::k₀)::cs)) w:=by
 lib_facts
 simp only[body_add,addFn,bX];refine⟨40,?_⟩
 u_c ah qa hF
 u_cond true qa hF
 u_c ah qa hF
 u_c ah qa hF
 u_reg qa hF
 u_op qa hF
 u_op qa hF
 u_c ac qa hF
 u_cond false qa hF
 u_c aG qa hF
 u_c ah qa hF
 u_reg qa hF
 refine aE (λw1 h1=>?_);replace hF:=qa hF h1;clear h1;refine⟨rfl,_,stepG_mark0 .disable (by simp) rfl rfl (by k_ne) rfl H.f_disable (x_disable_n L) (x_disable_b L) (x_disable_x L) (x_disable_f L),60,?_⟩
 walk_nrm
 u_c ac qa hF
 u_reg qa hF
 u_defer qa hF
 u_c ac qa hF
 u_c ah qa hF
 u_reg qa hF
 u_op qa hF
 u_c ac qa hF
 u_c ah qa hF
 u_c ah qa hF
 u_reg qa hF
 u_bub qa hF
 u_c ac qa hF
 u_cond false qa hF
 u_c aG qa hF
 u_c ah qa hF
 u_reg qa hF
 u_op qa hF
 u_op qa hF
 u_op qa hF
 u_op qa hF
 u_op qa hF
 u_op qa hF
 u_call H.f_uAdd (nm_uAdd L) uAddFn qa hF
 u_c ah qa hF
 u_reg qa hF
 u_op qa hF
 u_c ac qa hF
 u_c ah qa hF
 u_reg qa hF
 u_op qa hF
 u_op qa hF
 u_op qa hF
 u_op qa hF
 refine aE (λw2 h2=>?_);replace hF:=qa hF h2;clear h2;refine⟨rfl,λv hv hw=>?_⟩;rcases aQ v with rfl|hvp
 ·replace hw:WgAt L.tWg Wg w2 0 0:=by simpa using hw
  have z:(((0:Nat):Int)+1)*KK=KK:=by simp
  rw[z];have e0:IntKind.u64.wrap (0+4294967296)=KK:=by decide
  refine⟨_,(stepG_add_atomic rfl rfl (by k_ne) rfl H.f_addU64 (x_addU64_n L) (x_addU64_b L) (x_addU64_x L) .u64 (x_addU64_f L) rfl rfl hw.cellSt (hw.thaw 0)).trans (by rw[e0];rfl),.inl ⟨rfl,120,?_⟩⟩;replace hF:bq L.tWg Wg (w2.setCell (stA Wg) (.int .u64 KK)):=⟨_,_,hw.setSt _⟩
  clear hw;simp only[KK]at hF⊢
  walk_nrm
  u_op qa hF
  u_c ac qa hF
  u_c aV qa hF
  u_leave1 H.f_uAdd qa hF
  u_op qa hF
  u_c ac qa hF
  u_c ah qa hF
  u_c ah qa hF
  u_reg qa hF
  u_op qa hF
  u_op qa hF
  u_op qa hF
  u_op qa hF
  u_skip qa hF
  u_skip qa hF
  u_op qa hF
  u_c ac qa hF
  u_cond false qa hF
  u_c aG qa hF
  u_c ah qa hF
  u_reg qa hF
  u_op qa hF
  u_op qa hF
  u_op qa hF
  u_op qa hF
  u_c ac qa hF
  u_c ah qa hF
  u_reg qa hF
  u_op qa hF
  u_op qa hF
  u_op qa hF
  u_op qa hF
  u_c ac qa hF
  u_c ah qa hF
  u_c ah qa hF
  u_reg qa hF
  u_op qa hF
  u_op qa hF
  u_op qa hF
  u_op qa hF
  u_op qa hF
  u_op qa hF
  u_op qa hF
  u_op qa hF
  u_op qa hF
  u_op qa hF
  u_c ac qa hF
  u_cond true qa hF
  u_reg qa hF
  u_op qa hF
  u_op qa hF
  u_op qa hF
  u_conv H.underlying_tPU32 H.room_tU32 (WgLive.cell1 hF).choose_spec qa hF
  refine aE (λw3 h3=>?_);replace hF:=qa hF h3;clear h3;refine⟨rfl,_,stepG_markAt .read (by simp) rfl rfl (by k_ne) rfl H.f_raceRead (x_raceRead_n L) (x_raceRead_b L) (x_raceRead_x L) (x_raceRead_f L) (ad:=⟨Wg,1,none⟩) (by simp[Act.eval]),120,?_⟩
  walk_nrm
  u_c ac qa hF
  u_c ah qa hF
  u_c ah qa hF
  u_reg qa hF
  u_op qa hF
  u_op qa hF
  u_c ac qa hF
  u_cond false qa hF
  u_c aG qa hF
  u_c ah qa hF
  u_c ah qa hF
  u_reg qa hF
  u_op qa hF
  u_op qa hF
  u_op qa hF
  u_skip qa hF
  u_skip qa hF
  u_op qa hF
  u_op qa hF
  u_skip qa hF
  u_skip qa hF
  u_skip qa hF
  u_skip qa hF
  u_op qa hF
  u_c ac qa hF
  u_cond false qa hF
  u_c aG qa hF
  u_c ah qa hF
  u_c ah qa hF
  u_reg qa hF
  u_op qa hF
  u_op qa hF
  u_op qa hF
  u_skip qa hF
  u_skip qa hF
  u_op qa hF
  u_c ac qa hF
  u_cond true qa hF
  u_c aV qa hF
  refine aE (λwq hq=>?_);replace hF:=qa hF hq;clear hq;refine⟨rfl,_,stepG_unwind_entry (v:=.tuple #[]) (evs:=#[mk .enable]) rfl H.f_enable (x_enable_n L) (x_enable_b L) (x_enable_x L) (x_enable_f L) (by simp[Extern.Race.none_]) (by simp[mk]) (by simp[mk]),?_⟩;refine⟨mT+1,?_⟩;exact cC rfl (λwq hq=>by
   refine goes_leave0 rfl rfl H.f_add rfl ⟨by u_nil,?_⟩
   exact hT _ (qa hF hq))
 ·obtain⟨V,hV⟩:∃V:Int,V=(v:Int)+1:=⟨_,rfl⟩
  obtain⟨S,hS⟩:∃S:Int,S=V*KK:=⟨_,rfl⟩
  have eS:IntKind.u64.wrap ((v:Int)*KK+4294967296)=S:=by rw[IntKind.wrap_u64,hS,hV];simp only[KK];omega
  rw[<-hV,<-hS];have a1:S/4294967296=V:=by rw[hS];simp only[KK];omega
  have b1:bits .and .u64 S 2147483648=0:=by rw[hS,hV];have:=st_flag (v+1) 0 (by omega) (by omega);simpa[KK]using this
  have b2:bits .and .u64 S 2147483647=0:=by rw[hS,hV];have:=st_waiters (v+1) 0 (by omega) (by omega);simpa[KK]using this
  have c1:IntKind.i32.wrap V=V:=by rw[IntKind.wrap_i32];omega
  have hV1:1<V:=by omega
  have hV2:V<2147483648:=by omega
  have q1:(V==1)=false:=by simp;omega
  have q2:decide (V=1)=false:=xdf (by omega);have q3:decide (V<0)=false:=xdf (by omega);have q4:decide (0<V)=true:=xdt (by omega);have q5:(V==0)=false:=by simp;omega
  have q6:decide (V=0)=false:=xdf (by omega);refine⟨_,(stepG_add_atomic rfl rfl (by k_ne) rfl H.f_addU64 (x_addU64_n L) (x_addU64_b L) (x_addU64_x L) .u64 (x_addU64_f L) rfl rfl hw.cellSt (hw.thaw 0)).trans (by rw[eS];rfl),.inr ⟨by omega,120,?_⟩⟩;replace hF:bq L.tWg Wg (w2.setCell (stA Wg) (.int .u64 S)):=⟨_,_,hw.setSt _⟩
  clear hw hS hV eS
  walk_nrm
  u_op qa hF
  u_c ac qa hF
  u_c aV qa hF
  u_leave1 H.f_uAdd qa hF
  u_op qa hF
  u_c ac qa hF
  u_c ah qa hF
  u_c ah qa hF
  u_reg qa hF
  u_op qa hF
  u_op qa hF
  u_op qa hF
  u_op qa hF
  u_skip qa hF
  u_skip qa hF
  u_op qa hF
  u_c ac qa hF
  u_cnd false qa hF
  u_c aG qa hF
  u_c ah qa hF
  u_reg qa hF
  u_op qa hF
  u_op qa hF
  u_op qa hF
  u_op qa hF
  u_c ac qa hF
  u_c ah qa hF
  u_reg qa hF
  u_op qa hF
  u_op qa hF
  u_op qa hF
  u_op qa hF
  u_c ac qa hF
  u_c ah qa hF
  u_c ah qa hF
  u_reg qa hF
  u_op qa hF
  u_op qa hF
  u_op qa hF
  u_op qa hF
  u_op qa hF
  u_op qa hF
  u_op qa hF
  u_op qa hF
  u_op qa hF
  u_op qa hF
  u_c ac qa hF
  u_cnd false qa hF
  u_c aG qa hF
  u_c ah qa hF
  u_c ah qa hF
  u_reg qa hF
  u_op qa hF
  u_op qa hF
  u_c ac qa hF
  u_cnd false qa hF
  u_c aG qa hF
  u_c ah qa hF
  u_c ah qa hF
  u_reg qa hF
  u_op qa hF
  u_op qa hF
  u_op qa hF
  u_skip qa hF
  u_skip qa hF
  u_op qa hF
  u_op qa hF
  u_skip qa hF
  u_skip qa hF
  u_skip qa hF
  u_skip qa hF
  u_op qa hF
  u_c ac qa hF
  u_cnd false qa hF
  u_c aG qa hF
  u_c ah qa hF
  u_c ah qa hF
  u_reg qa hF
  u_op qa hF
  u_op qa hF
  u_op qa hF
  u_skip qa hF
  u_skip qa hF
  u_op qa hF
  u_c ac qa hF
  u_cnd true qa hF
  u_c aV qa hF
  refine aE (λwq hq=>?_);replace hF:=qa hF hq;clear hq;refine⟨rfl,_,stepG_unwind_entry (v:=.tuple #[]) (evs:=#[mk .enable]) rfl H.f_enable (x_enable_n L) (x_enable_b L) (x_enable_x L) (x_enable_f L) (by simp[Extern.Race.none_]) (by simp[mk]) (by simp[mk]),?_⟩;refine⟨mT+1,?_⟩;exact cC rfl (λwq hq=>by
   refine goes_leave0 rfl rfl H.f_add rfl ⟨by u_nil,?_⟩
   exact hT _ (qa hF hq))
theorem waitRound (H:WgLib P L) {K:aa->ag->Prop} {mT:Nat}
  (hT:∀w,bq L.tWg Wg w->Goes P true (RM L.tWg Wg F) DC0 K mT (G (b₀.at (a₀.put ((ops₀[i₀]?).bind (·.dst)) (.tuple #[])) (.inRegion ops₀ rest₀::k₀)) cs) w)
  (g:aa) (w:ag) (h:Anch L Wg (b₀.at a₀ (.inRegion ops₀ (i₀::rest₀)::k₀)) cs g w):
  MG P L.tWg Wg F (rU P L.tWg Wg F (Anch L Wg (b₀.at a₀ (.inRegion ops₀ (i₀::rest₀)::k₀)) cs) (MG P L.tWg Wg F K)) g w:=by
 lib_facts
 obtain⟨T,rfl,Te,t0,hF⟩:=h;obtain⟨v0,v1,v2,v3,v4,v5,v6,v7,v8,v9,v10,v11,v12,v13,v14,v15,v16,v17,v18,v19,v20,v21,v22,v23,v24,v25,v26,v27,v28,v29,v30,v31,v32,v33,v34,v35,v36,v37,v38,v39,v40,v41,v42,v43,v44,v45,v46,v47,v48,v49,v50,v51,v52,v53,v54,v55,v56,v57,v58,v59,v60,v61,v62,v63,v64,v65,v66,v67,v68,v69,v70,v71,v72,v73,v74,v75,v76,v77,v78,v79,v80,v81,v82,v83,rfl⟩:=array84 T Te;simp only[List.getElem?_toArray,List.getElem?_cons_zero,aB]at t0;subst t0;refine⟨30,?_⟩;simp only[L7,body_wait,waitFn,bX]
 u_c stepG_block qa hF
 u_c ah qa hF
 u_reg qa hF
 u_op qa hF
 u_op qa hF
 u_op qa hF
 u_call H.f_uLoad (nm_uLoad L) uLoadFn qa hF
 u_c ah qa hF
 u_reg qa hF
 u_op qa hF
 u_c ac qa hF
 u_c ah qa hF
 u_reg qa hF
 u_op qa hF
 u_op qa hF
 u_op qa hF
 refine aE (λw1 h1=>?_);replace hF:=qa hF h1;clear h1;refine⟨rfl,λv hv hw=>?_⟩;rcases aQ v with rfl|hvp
 ·replace hw:WgAt L.tWg Wg w1 0 0:=by simpa using hw
  refine⟨_,bP (v:=0) rfl rfl (by k_ne) rfl H.f_loadU64 (x_loadU64_n L) (x_loadU64_b L) (x_loadU64_x L) .u64 (x_loadU64_f L) rfl hw.cellSt,λ_=>⟨60,?_⟩,λh=>absurd rfl h⟩;clear hw
  walk_nrm
  u_op qa hF
  u_c ac qa hF
  u_c aV qa hF
  u_leave1 H.f_uLoad qa hF
  u_op qa hF
  u_c ac qa hF
  u_c ah qa hF
  u_reg qa hF
  u_op qa hF
  u_op qa hF
  u_op qa hF
  u_op qa hF
  u_c ac qa hF
  u_c ah qa hF
  u_reg qa hF
  u_op qa hF
  u_op qa hF
  u_op qa hF
  u_op qa hF
  u_c ac qa hF
  u_c ah qa hF
  u_c ah qa hF
  u_reg qa hF
  u_op qa hF
  u_op qa hF
  u_c ac qa hF
  u_cond true qa hF
  u_c ah qa hF
  u_cond true qa hF
  u_c ah qa hF
  u_reg qa hF
  refine aE (λw5 h5=>?_);replace hF:=qa hF h5;clear h5;refine⟨rfl,_,stepG_mark0 .enable (by simp) rfl rfl (by k_ne) rfl H.f_enable (x_enable_n L) (x_enable_b L) (x_enable_x L) (x_enable_f L),12,?_⟩
  walk_nrm
  u_c ac qa hF
  u_reg qa hF
  u_op qa hF
  u_conv H.underlying_tWgP H.room_tWg (WgLive.cell0 hF).choose_spec qa hF
  refine aE (λw6 h6=>?_);replace hF:=qa hF h6;clear h6;refine⟨rfl,_,stepG_markAt (.acquire) (by simp) rfl rfl (by k_ne) rfl H.f_acquire (x_acquire_n L) (x_acquire_b L) (x_acquire_x L) (x_acquire_f L) (by simp[Act.eval,stA]),?_⟩;refine⟨mT+1+19,?_⟩
  walk_nrm
  u_c ac qa hF
  u_c ah qa hF
  u_c ah qa hF
  u_reg qa hF
  u_op qa hF
  u_op qa hF
  u_op qa hF
  u_op qa hF
  u_op qa hF
  u_op qa hF
  u_op qa hF
  u_op qa hF
  u_skip qa hF
  u_skip qa hF
  u_op qa hF
  u_c ac qa hF
  u_cond false qa hF
  u_c aG qa hF
  u_c aV qa hF
  exact cC rfl (λwq hq=>by
   refine goes_leave0 rfl rfl H.f_wait rfl ⟨by u_nil,?_⟩
   exact hT _ (qa hF hq))
 ·obtain⟨S,hS⟩:∃S:Int,(v:Int)*KK=S:=⟨_,rfl⟩
  have a1:S/4294967296=(v:Int):=by rw[<-hS];simp only[KK];omega
  have b1:bits .and .u64 S 2147483648=0:=by rw[<-hS];have:=st_flag v 0 (by omega) (by omega);simpa[KK]using this
  have b2:bits .and .u64 S 2147483647=0:=by rw[<-hS];have:=st_waiters v 0 (by omega) (by omega);simpa[KK]using this
  have c1:IntKind.i32.wrap (v:Int)=(v:Int):=by rw[IntKind.wrap_i32];omega
  have gy:IntKind.u64.wrap (S+1)=S+1:=by rw[IntKind.wrap_u64,<-hS];simp only[KK];omega
  have q3:decide ((v:Int)<0)=false:=xdf (by omega);have q4:decide (0<(v:Int))=true:=xdt (by omega);have q5:((v:Int)==0)=false:=by simp;omega
  have q6:decide ((v:Int)=0)=false:=xdf (by omega);rw[hS]at hw;refine⟨_,bP (v:=S) rfl rfl (by k_ne) rfl H.f_loadU64 (x_loadU64_n L) (x_loadU64_b L) (x_loadU64_x L) .u64 (x_loadU64_f L) rfl hw.cellSt,λh0=>absurd h0 (by omega),λ_=>⟨60,?_⟩⟩;clear hw
  walk_nrm
  u_op qa hF
  u_c ac qa hF
  u_c aV qa hF
  u_leave1 H.f_uLoad qa hF
  u_op qa hF
  u_c ac qa hF
  u_c ah qa hF
  u_reg qa hF
  u_op qa hF
  u_op qa hF
  u_op qa hF
  u_op qa hF
  u_c ac qa hF
  u_c ah qa hF
  u_reg qa hF
  u_op qa hF
  u_op qa hF
  u_op qa hF
  u_op qa hF
  u_c ac qa hF
  u_c ah qa hF
  u_c ah qa hF
  u_reg qa hF
  u_op qa hF
  u_op qa hF
  u_c ac qa hF
  u_cnd false qa hF
  u_c aG qa hF
  u_c ah qa hF
  u_reg qa hF
  u_op qa hF
  u_op qa hF
  u_op qa hF
  u_op qa hF
  u_op qa hF
  u_op qa hF
  u_call H.f_uCas (nm_uCas L) uCasFn qa hF
  u_c ah qa hF
  u_reg qa hF
  u_op qa hF
  u_c ac qa hF
  u_c ah qa hF
  u_reg qa hF
  u_op qa hF
  u_op qa hF
  u_op qa hF
  u_op qa hF
  u_op qa hF
  refine aE (λw2 h2=>?_);replace hF:=qa hF h2;clear h2;refine⟨rfl,λv' Ej hw=>⟨λe=>?_,λe=>?_⟩⟩
  ·subst e;rw[hS]at hw⊢;refine⟨_,(stepG_cas_hit (v:=S) (n:=S+1) rfl rfl (by k_ne) rfl H.f_casU64 (x_casU64_n L) (x_casU64_b L) (x_casU64_x L) .u64 (x_casU64_f L) rfl rfl rfl hw.cellSt (hw.thaw 0)).trans (by rfl),40,?_⟩;replace hF:bq L.tWg Wg (w2.setCell (stA Wg) (.int .u64 (S+1))):=⟨_,_,hw.setSt _⟩
   clear hw
   walk_nrm
   u_op qa hF
   u_c ac qa hF
   u_c aV qa hF
   u_leave1 H.f_uCas qa hF
   u_c ac qa hF
   u_cond true qa hF
   u_c ah qa hF
   u_c ah qa hF
   u_reg qa hF
   u_op qa hF
   u_op qa hF
   u_op qa hF
   u_op qa hF
   u_c ac qa hF
   u_cond true qa hF
   u_reg qa hF
   u_op qa hF
   u_op qa hF
   u_op qa hF
   u_conv H.underlying_tPU32 H.room_tU32 (WgLive.cell1 hF).choose_spec qa hF
   refine aE (λw3 h3=>?_);replace hF:=qa hF h3;clear h3;refine⟨rfl,_,stepG_markAt .write (by simp) rfl rfl (by k_ne) rfl H.f_raceWrite (x_raceWrite_n L) (x_raceWrite_b L) (x_raceWrite_x L) (x_raceWrite_f L) (ad:=⟨Wg,1,none⟩) (by simp[Act.eval]),40,?_⟩
   walk_nrm
   u_c ac qa hF
   u_c ah qa hF
   u_reg qa hF
   u_op qa hF
   u_c ac qa hF
   u_c ah qa hF
   u_c ah qa hF
   u_reg qa hF
   u_op qa hF
   u_op qa hF
   u_op qa hF
   u_op qa hF
   u_skip qa hF
   u_op qa hF
   u_c ac qa hF
   u_cond false qa hF
   u_c aG qa hF
   u_c ah qa hF
   u_reg qa hF
   u_op qa hF
   u_op qa hF
   u_op qa hF
   u_op qa hF
   refine aE (λw4 h4=>?_);replace hF:=qa hF h4;clear h4;refine⟨rfl,rfl,λ⟨st,hw⟩=>stepG_semacquire_wait rfl rfl rfl H.f_semacquire (x_semacquire_n L) (x_semacquire_b L) (x_semacquire_x L) (x_semacquire_f L) (by simp[Act.eval,smA]) hw.cellSm,λhf=>?_⟩;refine⟨_,(stepG_semacquire (n:=1) rfl rfl (by k_ne) rfl H.f_semacquire (x_semacquire_n L) (x_semacquire_b L) (x_semacquire_x L) (x_semacquire_f L) (by simp[Act.eval,smA]) hf.cellSm (by k_ne) (hf.thaw 1)).trans (by rfl),40,?_⟩;replace hF:bq L.tWg Wg (w4.setCell (smA Wg) (.int .u32 0)):=⟨_,_,hf.setSm 0⟩
   clear hf
   walk_nrm
   u_c ac qa hF
   u_c ah qa hF
   u_reg qa hF
   u_op qa hF
   u_op qa hF
   u_op qa hF
   u_call H.f_uLoad (nm_uLoad L) uLoadFn qa hF
   u_c ah qa hF
   u_reg qa hF
   u_op qa hF
   u_c ac qa hF
   u_c ah qa hF
   u_reg qa hF
   u_op qa hF
   u_op qa hF
   u_op qa hF
   refine aE (λw7 h7=>?_);replace hF:=qa hF h7;clear h7;refine⟨rfl,λhw=>⟨_,bP (v:=0) rfl rfl (by k_ne) rfl H.f_loadU64 (x_loadU64_n L) (x_loadU64_b L) (x_loadU64_x L) .u64 (x_loadU64_f L) rfl hw.cellSt,40,?_⟩⟩;clear hw
   walk_nrm
   u_op qa hF
   u_c ac qa hF
   u_c aV qa hF
   u_leave1 H.f_uLoad qa hF
   u_op qa hF
   u_op qa hF
   u_c ac qa hF
   u_c ah qa hF
   u_cond true qa hF
   u_c ah qa hF
   u_reg qa hF
   refine aE (λw5 h5=>?_);replace hF:=qa hF h5;clear h5;refine⟨rfl,_,stepG_mark0 .enable (by simp) rfl rfl (by k_ne) rfl H.f_enable (x_enable_n L) (x_enable_b L) (x_enable_x L) (x_enable_f L),12,?_⟩
   walk_nrm
   u_c ac qa hF
   u_reg qa hF
   u_op qa hF
   u_conv H.underlying_tWgP H.room_tWg (WgLive.cell0 hF).choose_spec qa hF
   refine aE (λw6 h6=>?_);replace hF:=qa hF h6;clear h6;refine⟨rfl,_,stepG_markAt (.acquire) (by simp) rfl rfl (by k_ne) rfl H.f_acquire (x_acquire_n L) (x_acquire_b L) (x_acquire_x L) (x_acquire_f L) (by simp[Act.eval,stA]),?_⟩;refine⟨mT+1+9,?_⟩
   walk_nrm
   u_c ac qa hF
   u_c ah qa hF
   u_c ah qa hF
   u_reg qa hF
   u_op qa hF
   u_c ac qa hF
   u_cond false qa hF
   u_c aG qa hF
   u_c aV qa hF
   exact cC rfl (λwq hq=>by
    refine goes_leave0 rfl rfl H.f_wait rfl ⟨by u_nil,?_⟩
    exact hT _ (qa hF hq))
  ·refine⟨_,stepG_cas_miss (v:=(v':Int)*KK) (old:=S) (n:=S+1) rfl rfl (by k_ne) rfl H.f_casU64 (x_casU64_n L) (x_casU64_b L) (x_casU64_x L) .u64 (x_casU64_f L) rfl rfl rfl hw.cellSt (hw.thaw 0) (by rw[<-hS];simp only[KK];omega),20,?_⟩;clear hw
   walk_nrm
   u_op qa hF
   u_c ac qa hF
   u_c aV qa hF
   u_leave1 H.f_uCas qa hF
   u_c ac qa hF
   u_cond false qa hF
   u_c aG qa hF
   u_c stepG_inBlock qa hF
   u_c stepG_inLoop qa hF
   refine aE (λw3 h3=>?_);replace hF:=qa hF h3;exact⟨_,rfl,by simp,by simp,hF⟩
theorem waitStart (H:WgLib P L) {c:al} (w:ag) (hF:bq L.tWg Wg w):
  MG P L.tWg Wg F (jQ P .disable (MG P L.tWg Wg F (Anch L Wg c cs))) (G ((base L.wait).at ⟨#[.pointer (some ⟨Wg,0,none⟩),ae,ae,ae,ae,ae,ae,ae,ae,ae,ae,ae,ae,ae,ae,ae,ae,ae,ae,ae,ae,ae,ae,ae,ae,ae,ae,ae,ae,ae,ae,ae,ae,ae,ae,ae,ae,ae,ae,ae,ae,ae,ae,ae,ae,ae,ae,ae,ae,ae,ae,ae,ae,ae,ae,ae,ae,ae,ae,ae,ae,ae,ae,ae,ae,ae,ae,ae,ae,ae,ae,ae,ae,ae,ae,ae,ae,ae,ae,ae,ae,ae,ae,ae],[]⟩ [.code (body_wait L)]) (c::cs)) w:=by
 lib_facts
 simp only[body_wait,waitFn,bX];refine⟨6,?_⟩
 u_c ah qa hF
 u_cond true qa hF
 u_reg qa hF
 refine aE (λw1 h1=>?_);replace hF:=qa hF h1;clear h1;refine⟨rfl,_,stepG_mark0 .disable (by simp) rfl rfl (by k_ne) rfl H.f_disable (x_disable_n L) (x_disable_b L) (x_disable_x L) (x_disable_f L),6,?_⟩
 walk_nrm
 u_c ac qa hF
 u_c stepG_block qa hF
 u_c stepG_loop qa hF
 exact aE (λw2 h2=>⟨_,rfl,by simp,by simp,qa hF h2⟩)
end
end
end
section
open Go Go.Conc Go.ConcN Sim
def qR (t:aD) (l:Loc):Prop:= ∀i a,touchAt t i=some a->a.loc≠l
theorem qR.perm {l:Loc} (h:qR t l) (g:Nat):Perm t g l:=λi a ha e=>(h i a ha e).elim
theorem qR.jjl {l:Loc} (h:qR t l) (g:Nat):PermW t g l:=λi a ha e _=>(h i a ha e).elim
section
variable {Sh:Loc->Prop} {Own Rd ES Rl:Nat->Loc->Prop} {t:aD} {j:Nat}
theorem CT.grow (h:CT Sh Own Rd t j) (ho:∀k l,ES k l->Own k l\/qR t l) (hr:∀k l,Rl k l->Rd k l\/qR t l)
  (so:∀k l,Own k l->ES k l) (sr:∀k l,Rd k l->Rl k l):CT Sh ES Rl t j:=
 ⟨h.quiet,λk k1 kj l hl=>(ho k l hl).elim (h.own k k1 kj l) (λf=>f.perm k),λk k1 kj l hl=>(hr k l hl).elim (h.rd k k1 kj l) (λf=>f.jjl k),
  λl hs hl=>h.free l hs λk k1 kj=>⟨λx=>(hl k k1 kj).1 (so k l x),λx=>(hl k k1 kj).2 (sr k l x)⟩,λl hs hl=>h.mine l hs λk k1 kj x=>hl k k1 kj (so k l x),h.nr,h.gs⟩
end
theorem WQ (h:∀op∈t,pG B op.act) {a:Addr} (ha:B<=a.block):qR t (.cell a):=by
 intro i x hx e;obtain⟨op,eU,sZ⟩:=cg hx;have hl:=h op (mem_of_getElem? eU) x sZ;rw[e]at hl;exact cJ _ (xll hl ha)
end
section
open Go Go.Conc Go.ConcN Sim
open Go.ConcR (KK WgAt stA smA rd wr mk Payload DC0)
def wJ (B:Blocks):Loc->Prop
 |.cell a=>B a.block
 |.obj r=>B r
 |_=>False
def rV:Nat->Loc->Prop:=λ_ _=>False
section
variable [Payload] (P:ax) (ty:aJ) (Wg C n:Nat)
def FO (jd:Nat->Blocks->aK->ag->Prop) (i:Nat) (F _O:Blocks) (g:aa) (w:ag):Prop:=
 g.status=.running/\∃v,jd i F v w/\∀w1,Ext F w w1->co C n w1->bq ty Wg w1->
  ∃g',aw P false g w1=.go g' (w1.setCell ⟨C,i,none⟩ v) #[⟨.cell ⟨C,i,none⟩,true,false⟩]/\
   ∃m,Goes P false (RW ty Wg C n 0 i) (DWs Wg rV rV C n (i+1)) (AtR0 P ty Wg C n 0 (i+1) v) m g' (w1.setCell ⟨C,i,none⟩ v)
def Script (jd:Nat->Blocks->aK->ag->Prop) (i:Nat) (F0:Blocks) (g:aa) (w:ag):Prop:=
 ∃F,(∀b,F b->F0 b)/\WG P false (FO P ty Wg C n jd i) F (λ_=>False) g w
def AtGoM (jd:Nat->Blocks->aK->ag->Prop) (i:Nat) (F:Blocks) (Next:aa->ag->Prop) (g:aa) (w:ag):Prop:=
 g.status=.running/\∃g' child,aw P true g w=.spawn g' child w #[]/\child.status=.running/\(co C n w->Script P ty Wg C n jd i F child w)/\Next g' w
def Scr (jd:Nat->Blocks->aK->ag->Prop) (K:aa->ag->Prop):Nat->Blocks->Blocks->aa->ag->Prop
 |0,F,_,g,w=>g.status=.running/\(bq ty Wg w->∃A:aa->ag->Prop,(∀g w,A g w->g.status=.running)/\(∀g w,A g w->MG P ty Wg F (rU P ty Wg F A K) g w)/\MG P ty Wg F (jQ P .disable (MG P ty Wg F A)) g w)
 |r+1,F,_,g,w=>g.status=.running/\(bq ty Wg w->MG P ty Wg F (jQ P .disable (MG P ty Wg F (xE P ty Wg F (MG P ty Wg F (AtGoM P ty Wg C n jd (n-(r+1)) F λg' w=>WG P true (Scr jd K r) F (λ_=>False) g' w))))) g w)
end
structure WX where
 stage:Nat
 fuel:Nat
 deaf:Nat
 rank:Rank
 F:Blocks
 O:Blocks
 val:aK
section
variable [Payload] (P:ax) (ty:aJ) (Wg C n:Nat) (jd:Nat->Blocks->aK->ag->Prop)
inductive WS (i:Nat) (d:WX) (g:aa) (w:ag):Prop
 |own:d.stage=9->d.deaf=0->d.fuel=0->WGo P false (FO P ty Wg C n jd i) d.rank d.F d.O g w->WS i d g w
 |lib:WSit P ty Wg C n rV rV 0 (i+1) d.val d.stage d.fuel d.deaf g w->jd i d.F d.val w->WS i d g w
inductive Tag where
 |wg (r:Nat)|kdS (r:Nat)|ad (r:Nat)|rs (r:Nat)|en (r:Nat)|gos (r:Nat)
 |kd|anch|ld|cs (vs:Nat)|ws|sm|blk|l2|en2|acq
inductive MS (K:aa->ag->Prop):Tag->Nat->Nat->Rank->Blocks->Blocks->aa->ag->Prop
 |wg {r:Nat} {rk:Rank} {F O:Blocks} {g:aa} {w:ag}:r<=n->WGo P true (Scr P ty Wg C n jd K r) rk F O g w->MS K (.wg r) 0 0 rk F O g w
 |kdS {r f:Nat} {F:Blocks} {g:aa} {w:ag}:r<n->Goes P true (RM ty Wg F) DC0 (jQ P .disable (MG P ty Wg F (xE P ty Wg F (MG P ty Wg F (AtGoM P ty Wg C n jd (n-(r+1)) F λg' w=>WG P true (Scr P ty Wg C n jd K r) F (λ_=>False) g' w))))) f g w->MS K (.kdS r) f 0 .leaf F (λ_=>False) g w
 |ad {r f:Nat} {F:Blocks} {g:aa} {w:ag}:r<n->Goes P true (RM ty Wg F) DC0 (xE P ty Wg F (MG P ty Wg F (AtGoM P ty Wg C n jd (n-(r+1)) F λg' w=>WG P true (Scr P ty Wg C n jd K r) F (λ_=>False) g' w))) f g w->MS K (.ad r) f 1 .leaf F (λ_=>False) g w
 |rs {r f:Nat} {F:Blocks} {g:aa} {w:ag}:r<n->Goes P true (RM ty Wg F) DC0 (jQ P (.read (smA Wg)) (MG P ty Wg F (jQ P .enable (MG P ty Wg F (AtGoM P ty Wg C n jd (n-(r+1)) F λg' w=>WG P true (Scr P ty Wg C n jd K r) F (λ_=>False) g' w))))) f g w->MS K (.rs r) f 1 .leaf F (λ_=>False) g w
 |en {r f:Nat} {F:Blocks} {g:aa} {w:ag}:r<n->Goes P true (RM ty Wg F) DC0 (jQ P .enable (MG P ty Wg F (AtGoM P ty Wg C n jd (n-(r+1)) F λg' w=>WG P true (Scr P ty Wg C n jd K r) F (λ_=>False) g' w))) f g w->MS K (.en r) f 1 .leaf F (λ_=>False) g w
 |gos {r f:Nat} {F:Blocks} {g:aa} {w:ag}:r<n->Goes P true (RM ty Wg F) DC0 (AtGoM P ty Wg C n jd (n-(r+1)) F λg' w=>WG P true (Scr P ty Wg C n jd K r) F (λ_=>False) g' w) f g w->MS K (.gos r) f 0 .leaf F (λ_=>False) g w
 |kd {f:Nat} {F:Blocks} {A:aa->ag->Prop} {g:aa} {w:ag}:(∀g w,A g w->g.status=.running)->(∀g w,A g w->MG P ty Wg F (rU P ty Wg F A K) g w)->Goes P true (RM ty Wg F) DC0 (jQ P .disable (MG P ty Wg F A)) f g w->MS K .kd f 0 .leaf F (λ_=>False) g w
 |anch {f:Nat} {F:Blocks} {A:aa->ag->Prop} {g:aa} {w:ag}:(∀g w,A g w->g.status=.running)->(∀g w,A g w->MG P ty Wg F (rU P ty Wg F A K) g w)->Goes P true (RM ty Wg F) DC0 A f g w->MS K .anch f 1 .leaf F (λ_=>False) g w
 |ld {f:Nat} {F:Blocks} {A:aa->ag->Prop} {g:aa} {w:ag}:(∀g w,A g w->g.status=.running)->(∀g w,A g w->MG P ty Wg F (rU P ty Wg F A K) g w)->Goes P true (RM ty Wg F) DC0 (rU P ty Wg F A K) f g w->MS K .ld f 1 .leaf F (λ_=>False) g w
 |cs {vs f:Nat} {F:Blocks} {A:aa->ag->Prop} {g:aa} {w:ag}:(∀g w,A g w->g.status=.running)->(∀g w,A g w->MG P ty Wg F (rU P ty Wg F A K) g w)->Goes P true (RM ty Wg F) DC0 (Dy P ty Wg F A K vs) f g w->MS K (.cs vs) f 1 .leaf F (λ_=>False) g w
 |ws {f:Nat} {F:Blocks} {g:aa} {w:ag}:Goes P true (RM ty Wg F) DC0 (jQ P (.write (smA Wg)) (MG P ty Wg F (yZ P ty Wg F K))) f g w->MS K .ws f 1 .leaf F (λ_=>False) g w
 |sm {f:Nat} {F:Blocks} {g:aa} {w:ag}:Goes P true (RM ty Wg F) DC0 (yZ P ty Wg F K) f g w->MS K .sm (f+1) 1 .leaf F (λ_=>False) g w
 |blk {F:Blocks} {g:aa} {w:ag}:(∀w1,RM ty Wg F w w1->yZ P ty Wg F K g w1)->MS K .blk 0 1 .leaf F (λ_=>False) {g with status:=.blocked} w
 |l2 {f:Nat} {F:Blocks} {g:aa} {w:ag}:Goes P true (RM ty Wg F) DC0 (Dx P ty Wg F K) f g w->MS K .l2 f 1 .leaf F (λ_=>False) g w
 |en2 {f:Nat} {F:Blocks} {g:aa} {w:ag}:Goes P true (RM ty Wg F) DC0 (jQ P .enable (MG P ty Wg F (jQ P (.acquire (stA Wg)) K))) f g w->MS K .en2 f 1 .leaf F (λ_=>False) g w
 |acq {f:Nat} {F:Blocks} {g:aa} {w:ag}:Goes P true (RM ty Wg F) DC0 (jQ P (.acquire (stA Wg)) K) f g w->MS K .acq f 0 .leaf F (λ_=>False) g w
end
section
variable [Payload]
section
variable {P:ax} {ty:aJ} {Wg C n:Nat} {jd:Nat->Blocks->aK->ag->Prop} {K:aa->ag->Prop} {tag:Tag} {f d:Nat} {rk:Rank} {F O:Blocks} {a:aa} {w w1:ag}
omit [Payload] in
theorem jw (w:ag):RM ty Wg F w w:=⟨Ext.refl ..,id⟩
theorem MS.rely (h:MS P ty Wg C n jd K tag f d rk F O a w) (r:RM ty Wg F w w1):MS P ty Wg C n jd K tag f d rk F O a w1:=by
 cases h with
 |wg h0 h=>exact .wg h0 (h.ext r.ext)
 |kdS h0 h=>exact .kdS h0 (h.rely sI r)
 |ad h0 h=>exact .ad h0 (h.rely sI r)
 |rs h0 h=>exact .rs h0 (h.rely sI r)
 |en h0 h=>exact .en h0 (h.rely sI r)
 |gos h0 h=>exact .gos h0 (h.rely sI r)
 |kd h0 h1 h=>exact .kd h0 h1 (h.rely sI r)
 |anch h0 h1 h=>exact .anch h0 h1 (h.rely sI r)
 |ld h0 h1 h=>exact .ld h0 h1 (h.rely sI r)
 |cs h0 h1 h=>exact .cs h0 h1 (h.rely sI r)
 |ws h=>exact .ws (h.rely sI r)
 |sm h=>exact .sm (h.rely sI r)
 |blk h=>exact .blk λw2 r2=>h w2 (sI _ _ _ r r2)
 |l2 h=>exact .l2 (h.rely sI r)
 |en2 h=>exact .en2 (h.rely sI r)
 |acq h=>exact .acq (h.rely sI r)
omit [Payload] in
theorem uJ {Stop:aa->ag->Prop} (hs:∀g w,Stop g w->g.status=.running) {n:Nat} {w:ag} (h:Goes P true (RM ty Wg F) DC0 Stop n g w):g.status=.running:=
 h.running hs w (jw w)
theorem q9o:∀(r:Nat) (F O:Blocks) (g:aa) (w:ag),Scr P ty Wg C n jd K r F O g w->g.status=.running:=by
 intro r F O g w h;cases r with
 |zero=>exact h.1
 |succ r=>exact h.1
omit [Payload] in
theorem NF {main:Bool} {Stop:Blocks->Blocks->aa->ag->Prop} (hs:∀F O g w,Stop F O g w->g.status=.running) {r:Rank} (h:WGo P main Stop r F O g w):g.status=.running:=by
 cases r with
 |leaf=>exact hs _ _ _ _ (h w (Ext.refl ..))
 |node f=>exact h.1
theorem MS.status (h:MS P ty Wg C n jd K tag f d rk F O a w):(a.status=.running/\tag≠.blk)\/(a.status=.blocked/\tag=.blk):=by
 cases h with
 |wg h0 h=>exact .inl ⟨NF (λF O g w x=>q9o _ F O g w x) h,by simp⟩
 |kdS h0 h=>exact .inl ⟨uJ (λ_ _ x=>x.1) h,by simp⟩
 |ad h0 h=>exact .inl ⟨uJ (λ_ _ x=>x.1) h,by simp⟩
 |rs h0 h=>exact .inl ⟨uJ (λ_ _ x=>x.1) h,by simp⟩
 |en h0 h=>exact .inl ⟨uJ (λ_ _ x=>x.1) h,by simp⟩
 |gos h0 h=>exact .inl ⟨uJ (λ_ _ x=>x.1) h,by simp⟩
 |kd h0 h1 h=>exact .inl ⟨uJ (λ_ _ x=>x.1) h,by simp⟩
 |anch h0 h1 h=>exact .inl ⟨uJ h0 h,by simp⟩
 |ld h0 h1 h=>exact .inl ⟨uJ (λ_ _ x=>x.1) h,by simp⟩
 |cs h0 h1 h=>exact .inl ⟨uJ (λ_ _ x=>x.1) h,by simp⟩
 |ws h=>exact .inl ⟨uJ (λ_ _ x=>x.1) h,by simp⟩
 |sm h=>exact .inl ⟨uJ (λ_ _ x=>x.1) h,by simp⟩
 |blk h=>exact .inr ⟨rfl,rfl⟩
 |l2 h=>exact .inl ⟨uJ (λ_ _ x=>x.1) h,by simp⟩
 |en2 h=>exact .inl ⟨uJ (λ_ _ x=>x.1) h,by simp⟩
 |acq h=>exact .inl ⟨uJ (λ_ _ x=>x.1) h,by simp⟩
theorem MS.wokenBy (h:MS P ty Wg C n jd K tag f d rk F O a w) (r:RM ty Wg F w w1) (g g':aa):
  ∃tag' f',MS P ty Wg C n jd K tag' f' d rk F O (woken P g g' w1 a) w1/\f'<=f+1/\(tag'=tag\/(tag=.blk/\tag'=.sm))/\(mayWake P g=true->g'.status=.running->tag'≠.blk):=by
 have h':=h.rely r;unfold Go.Conc.woken;split
 ·rcases h'.status with⟨hs,fA⟩|⟨_,rfl⟩
  ·exact⟨tag,f,by rw[again_running _ (.inl hs)];exact h',by omega,.inl rfl,λ_ _=>fA⟩
  ·cases h' with
   |blk hb=>
    have h3:=hb w1 (jw w1);exact⟨.sm,0+1,by rw[Go.ConcR.again_blocked h3.1 h3.2.1];exact .sm (aE hb),by omega,.inr ⟨rfl,rfl⟩,λ_ _=>by simp⟩
 ·rename_i hc;exact⟨tag,f,h',by omega,.inl rfl,λh1 h2=>absurd (by simp[h1,h2]) hc⟩
end
def xd (D:Nat->WX):Nat->WD:=λi=>⟨if(D i).stage=9 then 7 else(D i).stage,(D i).fuel,(D i).deaf⟩
def mX:Tag->Nat
 |.rs _|.en _|.gos _=>1
 |_=>0
def KE:Tag->Prop
 |.wg _|.kdS _|.ad _|.rs _|.en _|.gos _|.kd|.anch|.ld|.cs _=>True
 |_=>False
def Pw:Tag->Prop
 |.ws|.sm|.blk=>True
 |_=>False
def XH:Tag->Prop
 |.l2|.en2|.acq=>True
 |_=>False
inductive Mo (j:Nat) (D:Nat->WD):Tag->Int->Int->Prop
 |opn {tag:Tag}:KE tag->OpenSt j D->(∀vs,tag=.cs vs->Vc j D<=vs/\1<=vs)->Mo j D tag (((Vc j D+mX tag:Nat):Int)*KK) 0
 |reg {tag:Tag}:Pw tag->OpenSt j D->1<=Vc j D->Mo j D tag (((Vc j D:Nat):Int)*KK+1) 0
 |last {tag:Tag} (L:Nat):Pw tag->L<j->((D L).stage=4\/(D L).stage=3\/(D L).stage=2)->(∀i,i<j->i≠L->(D i).stage=1)->Mo j D tag (if(D L).stage=2 then 0 else 1) 0
 |sema {tag:Tag}:(tag=.ws\/tag=.sm)->AllQuit j D->Mo j D tag 0 1
 |fin {tag:Tag}:XH tag->AllQuit j D->Mo j D tag 0 0
def psi (n v:Nat):Tag->Nat
 |.wg r=>8*n+20+32*r
 |.kdS r=>8*n+20+32*r+24
 |.ad r=>8*n+20+32*r+23
 |.rs r=>8*n+20+32*r+22
 |.en r=>8*n+20+32*r+21
 |.gos r=>8*n+20+32*r+20
 |.kd=>8*n+12
 |.anch=>8*v+8
 |.ld=>8*v+7
 |.cs vs=>8*vs+6
 |.ws=>5
 |.sm=>4
 |.blk=>4
 |.l2=>3
 |.en2=>2
 |.acq=>1
end
end
section
open Go Go.Conc Go.ConcN Sim
open Go.ConcR (KK WgAt stA smA rd wr mk Payload DC0 g_of_ofEvents)
section
variable [Payload]
section
variable (o Wg C:Nat) (SB:Blocks)
def ShP:Loc->Prop:=ShB λb=>SB b\/b=Wg
def su (j:Nat) (D:Nat->WX) (k:Nat) (l:Loc):Prop:= ∃i,i<j/\k=o+i/\(wJ (D i).O l\/l=.cell ⟨C,i,none⟩)
def RdD (j:Nat) (D:Nat->WX) (k:Nat) (l:Loc):Prop:= ∃i,i<j/\k=o+i/\wJ (λb=>(D i).F b/\¬(D i).O b) l
structure Sep (j:Nat) (D:Nat->WX) (FM OM:Blocks) (w:ag):Prop where
 wF:∀i,i<j->∀b,(D i).F b->b<w.heap.size/\b≠Wg/\b≠C/\¬SB b
 wO:∀i,i<j->∀b,(D i).O b->(D i).F b
 apart:∀i i',i<j->i'<j->i≠i'->∀b,(D i).O b->¬(D i').F b
 mF:∀b,FM b->b<w.heap.size/\b≠Wg/\b≠C/\¬SB b/\∀i,i<j->¬(D i).O b
 mO:∀b,OM b->FM b/\∀i,i<j->¬(D i).F b
 lW:Wg<w.heap.size
 lC:C<w.heap.size
 lS:∀b,SB b->b<w.heap.size
 hCW:C≠Wg
 sW:¬SB Wg
 sC:¬SB C
end
def J9 (o:Nat) (a:Addr) (t:aD):Prop:= ∃p,p<=t.size/\(∀i g,i<p->t.g? i=some g->g<o)/\∀i,p<=i->t.act? i≠some (.mark (.release a))
omit [Payload] in
theorem J9.app {o:Nat} {a:Addr} {u:aD} (h:J9 o a t) (hu:∀op∈u,op.act≠.mark (.release a)):J9 o a (t++u):=by
 obtain⟨p,h0,h1,h2⟩:=h;refine⟨p,by simp;omega,λi g hi hg=>h1 i g hi (by rw[<-g?_old (u:=u) (by omega)];exact hg),λi hi he=>?_⟩;obtain⟨op,ho,Zf⟩:=ao.1 he;rcases aS ho with⟨_,Be⟩|⟨_,Qv⟩
 ·exact h2 i hi (by rw[act?_of Be,Zf])
 ·exact hu op Qv Zf
section
variable (P:ax) (ty:aJ) (o Wg C n:Nat) (SB:Blocks) (jd:Nat->Blocks->aK->ag->Prop)
structure Ah (j:Nat) (D:Nat->WX) (w:ag) (t:aD):Prop where
 ct:CT (ShP Wg SB) (su o C j D) (RdD o j D) t (o-1+j)
 norel:J9 o (stA Wg) t
 hand:∀i g,t.g? i=some g->g≠0->g<o->t.counts i->∃q,t.g? q=some 0/\bF t i q
 known:∀i a,touchAt t i=some a->Knows t 0 i\/(ShP Wg SB a.loc/\a.kind=.atomic)\/∃g,t.g? i=some g/\o<=g/\a.kind≠.atomic
 mem:∀i a,touchAt t i=some a->a.loc.isMemory=true
 seen:∀op∈t,pG w.heap.size op.act
structure iO (j:Nat) (gs:Array aa) (w:ag) (t:aD) (D:Nat->WX) (q:Nat->Nat) (d0:Nat):Prop where
 size:gs.size=o+j
 old:∀i g,0<i->i<o->gs[i]?=some g->QuitsD P (q i) (Deaf t i) g
 wk:∀i,i<j->∃g,gs[o+i]?=some g/\WS P ty Wg C n jd i (D i) g w
 tr:Ah o Wg C SB j D w t
 deaf0:Deaf t 0=d0
 deafW:∀i,i<j->Deaf t (o+i)=(D i).deaf
 above:∀k,o+j<=k->Deaf t k=0
 rel:∀i,i<j->(D i).stage<=6->∃r,RelBy (stA Wg) t (o+i) r
 has:∀i,i<j->(D i).stage<=6->Has C i (D i).val w
 pay:co C n w
 wY:0<o
end
section
variable {P:ax} {ty:aJ} {o Wg C n:Nat} {SB:Blocks} {jd:Nat->Blocks->aK->ag->Prop} {j:Nat} {gs:Array aa} {w w':ag} {t:aD} {D:Nat->WX} {q:Nat->Nat} {d0:Nat} {FM OM:Blocks}
omit [Payload] in
theorem Sep.own (h:Sep Wg C SB j D FM OM w):Apart (ShP Wg SB) (su o C j D) (RdD o j D):=by
 have vR:∀{B:Blocks} {l:Loc},wJ B l->∃b,B b/\((∃a,l=.cell a/\a.block=b)\/l=.obj b):=by
  intro B l hl;cases l with
  |cell a=>exact⟨_,hl,.inl ⟨a,rfl,rfl⟩⟩
  |obj r=>exact⟨_,hl,.inr rfl⟩
  |_=>exact hl.elim
 have same:∀{b b':Nat} {l:Loc},((∃a:Addr,l=.cell a/\a.block=b)\/l=.obj b)->((∃a:Addr,l=.cell a/\a.block=b')\/l=.obj b')->b=b':=by
  intro b b' l h1 h2;rcases h1 with⟨a,rfl,rfl⟩|rfl
  ·rcases h2 with⟨a',e,rfl⟩|e
   ·cases e;rfl
   ·cases e
  ·rcases h2 with⟨a',e,rfl⟩|e
   ·cases e
   ·cases e;rfl
 have cellC:∀{b i:Nat} {l:Loc},l=.cell ⟨C,i,none⟩->((∃a:Addr,l=.cell a/\a.block=b)\/l=.obj b)->b=C:=by
  intro b i l e h1;subst e;rcases h1 with⟨a,e,rfl⟩|e
  ·cases e;rfl
  ·cases e
 have MW:∀{l:Loc} {b:Nat},ShP Wg SB l->((∃a:Addr,l=.cell a/\a.block=b)\/l=.obj b)->SB b\/b=Wg:=by
  rintro l b ⟨a,rfl,hs⟩ h1;rcases h1 with⟨a',e,rfl⟩|e
  ·cases e;exact hs
  ·cases e
 refine⟨?_,?_,?_,?_⟩
 ·rintro k k' l ⟨i,hi,rfl,h1⟩ ⟨i',fI,rfl,h2⟩;by_cases e:i=i'
  ·rw[e]
  ·exfalso;rcases h1 with h1|h1<;>rcases h2 with h2|h2
   ·obtain⟨b,hb,hl⟩:=vR h1;obtain⟨b',gK,wR⟩:=vR h2;obtain rfl:=same hl wR;exact h.apart i i' hi fI e b hb (h.wO i' fI b gK)
   ·obtain⟨b,hb,hl⟩:=vR h1;exact(h.wF i hi b (h.wO i hi b hb)).2.2.1 (cellC h2 hl)
   ·obtain⟨b,hb,hl⟩:=vR h2;exact(h.wF i' fI b (h.wO i' fI b hb)).2.2.1 (cellC h1 hl)
   ·rw[h1]at h2;cases h2;exact e rfl
 ·rintro k k' l ⟨i,hi,rfl,h1⟩ ⟨i',fI,rfl,h2⟩;obtain⟨b',⟨gK,fP⟩,wR⟩:=vR h2;rcases h1 with h1|h1
  ·obtain⟨b,hb,hl⟩:=vR h1;obtain rfl:=same hl wR;by_cases e:i=i'
   ·subst e;exact fP hb
   ·exact h.apart i i' hi fI e b hb gK
  ·exact(h.wF i' fI b' gK).2.2.1 (cellC h1 wR)
 ·rintro k l ⟨i,hi,rfl,h1⟩ hs;rcases h1 with h1|h1
  ·obtain⟨b,hb,hl⟩:=vR h1;have:=h.wF i hi b (h.wO i hi b hb);rcases MW hs hl with x|x
   ·exact this.2.2.2 x
   ·exact this.2.1 x
  ·have:=MW (b:=C) hs (.inl ⟨_,h1,rfl⟩);rcases this with x|x
   ·exact h.sC x
   ·exact h.hCW x
 ·rintro k l ⟨i,hi,rfl,h1⟩ hs;obtain⟨b,⟨hb,_⟩,hl⟩:=vR h1;have:=h.wF i hi b hb;rcases MW hs hl with x|x
  ·exact this.2.2.2 x
  ·exact this.2.1 x
end
end
section
variable {o Wg C:Nat} {SB:Blocks} {j:Nat} {w w':ag} {t u:aD} {D D':Nat->WX}
theorem KO (h:∀i g,t.g? i=some g->g≠0->g<o->t.counts i->∃q,t.g? q=some 0/\bF t i q)
  (hu:∀op∈u,op.g=0\/o<=op.g\/op.act.touch?=none):∀i g,(t++u).g? i=some g->g≠0->g<o->(t++u).counts i->∃q,(t++u).g? q=some 0/\bF (t++u) i q:=by
 intro i g hg fA eH hc;have oV:=hc;obtain⟨x,hx,_⟩:=hc;obtain⟨op,eU,sZ⟩:=cg hx;rcases aS eU with⟨hi,fZ⟩|⟨_,ug⟩
 ·obtain⟨q,hq,hb⟩:=h i g (by simpa[bY,getElem?_append_old hi]using hg) fA eH ((counts_old hi).1 oV);have kR:q<t.size:=by
   unfold bY at hq;obtain⟨z,hz,_⟩:=ao.1 hq;exact lt_size_of_getElem? hz
  exact⟨q,by simpa[bY,getElem?_append_old kR]using hq,hb_app u hb⟩
 ·have eg:op.g=g:=by simpa[bY,eU]using hg
  rcases hu op ug with h0|h0|h0
  ·omega
  ·omega
  ·rw[h0]at sZ;cases sZ
theorem Lc (h:∀i a,touchAt t i=some a->Knows t 0 i\/(ShP Wg SB a.loc/\a.kind=.atomic)\/∃g,t.g? i=some g/\o<=g/\a.kind≠.atomic)
  (hu:∀op∈u,∀x,op.act.touch?=some x->op.g=0\/(ShP Wg SB x.loc/\x.kind=.atomic)\/(o<=op.g/\x.kind≠.atomic)):
  ∀i a,touchAt (t++u) i=some a->Knows (t++u) 0 i\/(ShP Wg SB a.loc/\a.kind=.atomic)\/∃g,(t++u).g? i=some g/\o<=g/\a.kind≠.atomic:=by
 intro i a ha;obtain⟨op,eU,sZ⟩:=cg ha;rcases aS eU with⟨hi,fZ⟩|⟨_,ug⟩
 ·rcases h i a (by rw[touchAt_of fZ];exact sZ)with h0|h0|⟨g,h0,h1⟩
  ·exact .inl (h0.app u)
  ·exact .inr (.inl h0)
  ·exact .inr (.inr ⟨g,by rw[g?_old hi];exact h0,h1⟩)
 ·rcases hu op ug a sZ with h0|h0|h0
  ·have:=knows_own eU;rw[h0]at this;exact .inl this
  ·exact .inr (.inl h0)
  ·exact .inr (.inr ⟨op.g,by simp[bY,eU],h0⟩)
theorem Vh (h:∀op∈t,pG B op.act) {l:Loc} {S:Blocks} (hl:wJ S l) (hS:∀b,S b->B<=b):qR t l:=by
 cases l with
 |cell a=>exact WQ h (hS _ hl)
 |obj r=>
  intro i x hx e;obtain⟨op,eU,sZ⟩:=cg hx;have jO:=h op (mem_of_getElem? eU) x sZ;rw[e]at jO;exact cJ _ (xll jO (hS _ hl))
 |_=>exact hl.elim
theorem VL {A B E:Blocks} (h:∀b,A b->B b\/E b) {l:Loc} (hl:wJ A l):wJ B l\/wJ E l:=by
 cases l with
 |cell a=>exact h _ hl
 |obj r=>exact h _ hl
 |_=>exact hl.elim
theorem Ah.appW (h:Ah o Wg C SB j D w t) (A:Apart (ShP Wg SB) (su o C j D') (RdD o j D')) (hi:i<j) (ho:0<o) (fC:w.heap.size<=w'.heap.size)
  (hD:∀i',i'≠i->D' i'=D i') (hF:∀b,(D i).F b->(D' i).F b) (hO:∀b,(D i).O b->(D' i).O b) (lG:∀b,(D' i).F b->(D i).F b\/w.heap.size<=b) (xZ:∀b,(D' i).O b->(D i).O b\/w.heap.size<=b) (jO:∀b,(D i).F b->b<w.heap.size)
  (hg:∀op∈u,op.g=o+i)
  (hk:∀op∈u,∀x,op.act.touch?=some x->x.loc.isMemory=true/\((ShP Wg SB x.loc/\x.kind=.atomic)\/(x.kind=.plain/\(su o C j D' (o+i) x.loc\/(RdD o j D' (o+i) x.loc/\x.write=false)))))
  (hn:∀op∈u,op.act≠.mark (.release (stA Wg))) (hl:∀op∈u,pG w'.heap.size op.act):Ah o Wg C SB j D' w' (t++u):=by
 have grow:CT (ShP Wg SB) (su o C j D') (RdD o j D') t (o-1+j):=by
  refine CT.grow h.ct (λk l=>?_) (λk l=>?_) (λk l=>?_) (λk l=>?_)
  ·rintro⟨i',fI,rfl,h1⟩;by_cases e:i'=i
   ·subst e;rcases h1 with h1|h1
    ·rcases VL xZ h1 with h2|h2
     ·exact .inl ⟨i',fI,rfl,.inl h2⟩
     ·exact .inr (Vh h.seen h2 λ_ x=>x)
    ·exact .inl ⟨i',fI,rfl,.inr h1⟩
   ·rw[hD i' e]at h1;exact .inl ⟨i',fI,rfl,h1⟩
  ·rintro⟨i',fI,rfl,h1⟩;by_cases e:i'=i
   ·subst e;rcases VL (B:=λb=>(D i').F b/\¬(D i').O b) (E:=λb=>w.heap.size<=b) (λb ⟨hb,pM⟩=>(lG b hb).imp (λx=>⟨x,λy=>pM (hO b y)⟩) id) h1 with h2|h2
    ·exact .inl ⟨i',fI,rfl,h2⟩
    ·exact .inr (Vh h.seen h2 λ_ x=>x)
   ·rw[hD i' e]at h1;exact .inl ⟨i',fI,rfl,h1⟩
  ·rintro⟨i',fI,rfl,h1⟩;by_cases e:i'=i
   ·subst e;refine⟨i',fI,rfl,h1.imp (λx=>?_) id⟩;cases l with
    |cell a=>exact hO _ x
    |obj r=>exact hO _ x
    |_=>exact x.elim
   ·exact⟨i',fI,rfl,by rw[hD i' e];exact h1⟩
  ·rintro⟨i',fI,rfl,h1⟩;by_cases e:i'=i
   ·subst e;have key:∀b,((D i').F b/\¬(D i').O b)->((D' i').F b/\¬(D' i').O b):=λb ⟨x,y⟩=>⟨hF b x,λz=>(xZ b z).elim y λv=>by have:=jO b x;omega⟩
    refine⟨i',fI,rfl,?_⟩;cases l with
    |cell a=>exact key _ h1
    |obj r=>exact key _ h1
    |_=>exact h1.elim
   ·exact⟨i',fI,rfl,by rw[hD i' e];exact h1⟩
 refine⟨grow.appW A (k:=o+i) (by omega) (by omega) λop eU=>⟨hg op eU,λx hx=>?_⟩,h.norel.app hn,KO h.hand λop eU=>.inr (.inl (by rw[hg op eU];omega)),Lc h.known λop eU x hx=>?_,FH h.mem λop eU x hx=>(hk op eU x hx).1,λop eU=>?_⟩
 ·rcases(hk op eU x hx).2 with⟨h1,h2⟩|⟨h1,h2⟩
  ·exact .inl ⟨h1,by rw[h2];simp,by rw[h2];simp⟩
  ·exact .inr h2
 ·rcases(hk op eU x hx).2 with h1|⟨h1,_⟩
  ·exact .inr (.inl h1)
  ·exact .inr (.inr ⟨by rw[hg op eU];omega,by rw[h1];simp⟩)
 ·rcases bZ.1 eU with h'|h'
  ·exact(h.seen op h').mono fC
  ·exact hl op h'
theorem Ah.app0 (h:Ah o Wg C SB j D w t) (A:Apart (ShP Wg SB) (su o C j D) (RdD o j D)) (fC:w.heap.size<=w'.heap.size) (fH:∀op∈u,Ok0 (ShP Wg SB) (su o C j D) (RdD o j D) (o-1+j) op)
  (hm:∀op∈u,∀x,op.act.touch?=some x->x.loc.isMemory=true) (hn:∀op∈u,op.act≠.mark (.release (stA Wg))) (hl:∀op∈u,pG w'.heap.size op.act):Ah o Wg C SB j D w' (t++u):=by
 refine⟨h.ct.app0 A fH,h.norel.app hn,KO h.hand λop eU=>.inl (fH op eU).1,Lc h.known λop eU x _=>.inl (fH op eU).1,FH h.mem hm,λop eU=>?_⟩;rcases bZ.1 eU with h'|h'
 ·exact(h.seen op h').mono fC
 ·exact hl op h'
end
end
section
open Go Go.Conc Go.ConcN Sim
def RL (N:Nat) (f g:Nat->Rank):Prop:= ∃i,i<N/\Rank.sub (f i) (g i)/\∀k,k≠i->f k=g k
theorem RL.wf (N:Nat):WellFounded (RL N):=by
 induction N with
 |zero=>exact⟨λg=>⟨_,λf ⟨i,hi,_⟩=>absurd hi (aq i)⟩⟩
 |succ N ih=>
  have key:∀r:Rank,∀g:Nat->Rank,g N=r->Acc (RL (N+1)) g:=by
   intro r;induction r using Rank.wf.induction with
   |_ r ihr=>
    intro g hg;have inner:∀g:Nat->Rank,g N=r->Acc (RL (N+1)) g:=by
     intro g;induction g using ih.induction with
     |_ g ihg=>
      intro hg;refine⟨_,λf ⟨i,hi,hs,he⟩=>?_⟩;by_cases e:i=N
      ·subst e;exact ihr (f i) (hg▸hs) f rfl
      ·exact ihg f ⟨i,by omega,hs,he⟩ ((he N (λh=>e h.symm)).trans hg)
    exact inner g hg
  exact⟨λg=>key _ g rfl⟩
abbrev Mea:=Nat×(Nat->Rank)×Nat
def MLt (N:Nat):Mea->Mea->Prop:=Prod.Lex (· <·) (Prod.Lex (RL N) (· <·))
theorem MLt.wf (N:Nat):WellFounded (MLt N):=(Prod.lex Nat.lt_wfRel (Prod.lex ⟨RL N,RL.wf N⟩ Nat.lt_wfRel)).wf
end
section
open Go Go.Conc Go.ConcN Sim
open Go.ConcR (KK WgAt stA smA rd wr mk Payload DC0 g_of_ofEvents)
section
variable [Payload]
section
variable {P:ax} {ty:aJ} {o Wg C n:Nat} {SB:Blocks} {jd:Nat->Blocks->aK->ag->Prop} {j:Nat} {gs:Array aa} {w w':ag} {t:aD} {D:Nat->WX} {q:Nat->Nat} {d0:Nat} {FM OM:Blocks}
theorem WS.rely (jl:∀i F v w w1,jd i F v w->Ext F w w1->jd i F v w1) {d:WX} (h:WS P ty Wg C n jd i d g w) (e:Ext d.F w w') (r:RW ty Wg C n 0 i w w'):WS P ty Wg C n jd i d g w':=by
 cases h with
 |own h1 h2 h3 h=>exact .own h1 h2 h3 (h.ext e)
 |lib h hr=>exact .lib (h.rely (by simpa using r)) (jl _ _ _ _ _ hr e)
theorem WS.status {d:WX} (h:WS P ty Wg C n jd i d g w):g.status=.running\/g.status=.finished:=by
 cases h with
 |own h1 h2 h3 h=>exact .inl (NF (λ_ _ _ _ x=>x.1) h)
 |lib h hr=>exact h.status
theorem WS.woken {d:WX} (h:WS P ty Wg C n jd i d g w) (a a':aa) (w1:ag):woken P a a' w1 g=g:=by
 unfold Go.Conc.woken;split
 ·exact again_running _ h.status
 ·rfl
theorem iO.stepW (jl:∀i F v w w1,jd i F v w->Ext F w w1->jd i F v w1) (h:iO P ty o Wg C n SB jd j gs w t D q d0) (S:Sep Wg C SB j D FM OM w) (hi:i<j) {pos:String} {x:WX}
  (S':Sep Wg C SB j (upd D i x) FM OM w')
  (jI:∀i',i'<j->i'≠i->Ext (D i').F w w'/\RW ty Wg C n 0 i' w w') (oP:WS P ty Wg C n jd i x g' w') (fC:w.heap.size<=w'.heap.size)
  (hF:∀b,(D i).F b->x.F b) (hO:∀b,(D i).O b->x.O b) (lG:∀b,x.F b->(D i).F b\/w.heap.size<=b) (xZ:∀b,x.O b->(D i).O b\/w.heap.size<=b)
  (hk:∀e∈es,∀y,(ai e).touch?=some y->y.loc.isMemory=true/\((ShP Wg SB y.loc/\y.kind=.atomic)\/(y.kind=.plain/\(su o C j (upd D i x) (o+i) y.loc\/(RdD o j (upd D i x) (o+i) y.loc/\y.write=false)))))
  (Bg:∀e∈es,e.loc≠.mark (.release (stA Wg))) (hl:∀e∈es,pG w'.heap.size (ai e))
  (yR:ay (D i).deaf es=x.deaf) (hrel:x.stage<=6->∃r,RelBy (stA Wg) (t++au (o+i) fn pos es) (o+i) r)
  (gQ:x.stage<=6->Has C i x.val w') (nK:co C n w'):
  iO P ty o Wg C n SB jd j ((gs.map (woken P g g' w')).setIfInBounds (o+i) g') w' (t++au (o+i) fn pos es) (upd D i x) q d0:=by
 have eU:=h.wY;have ne:∀k,k≠o+i->Deaf (t++au (o+i) fn pos es) k=Deaf t k:=λk hk=>bz t (λe=>hk e.symm) _ g_of_ofEvents;refine⟨by simp[h.size],λi' g1 h0 eH kV=>?_,λi' fI=>?_,?_,by rw[ne 0 (by omega),h.deaf0],λi' fI=>?_,λk rZ=>by rw[ne k (by omega)];exact h.above k rZ,λi' fI hst=>?_,λi' fI hst=>?_,nK,eU⟩
 ·rw[bj _ _ _ _ (by omega)]at kV;obtain⟨y,hy,rfl⟩:=ao.1 kV;have hq:=h.old i' y h0 eH hy;rw[bI hq,ne i' (by omega)];exact hq
 ·by_cases e:i'=i
  ·subst e;exact⟨g',bA _ _ _ (by rw[h.size];omega),by rw[ak];exact oP⟩
  ·obtain⟨y,hy,zL⟩:=h.wk i' fI;refine⟨y,by rw[bj _ _ _ _ (by omega),hy,ce,zL.woken],?_⟩;rw[az D _ e];exact zL.rely jl (jI i' fI e).1 (jI i' fI e).2
 ·refine h.tr.appW S'.own hi eU fC (λi' e=>az D _ e) (by rw[ak];exact hF) (by rw[ak];exact hO) (by rw[ak];exact lG) (by rw[ak];exact xZ) (λb hb=>(S.wF i hi b hb).1) g_of_ofEvents (λop fZ y hy=>?_) (norel_of Bg) (λop fZ=>?_)
  ·obtain⟨e,he,rfl⟩:=aj fZ;exact hk e he y hy
  ·obtain⟨e,he,rfl⟩:=aj fZ;exact hl e he
 ·by_cases e:i'=i
  ·subst e;rw[Deaf_own,h.deafW i' fI,ak];exact yR
  ·rw[ne _ (by omega),h.deafW i' fI,az D _ e]
 ·by_cases e:i'=i
  ·subst e;rw[ak]at hst;exact hrel hst
  ·rw[az D _ e]at hst;obtain⟨r,hr⟩:=h.rel i' fI hst;exact⟨r,hr.appOther g_of_ofEvents (by omega)⟩
 ·by_cases e:i'=i
  ·subst e;rw[ak]at hst⊢;exact gQ hst
  ·rw[az D _ e]at hst⊢;exact(jI i' fI e).2.cell.trans (h.has i' fI hst)
theorem iO.step0 (jl:∀i F v w w1,jd i F v w->Ext F w w1->jd i F v w1) (h:iO P ty o Wg C n SB jd j gs w t D q d0) (S:Sep Wg C SB j D FM OM w) {a:aa} {pos:String}
  (jI:∀i,i<j->Ext (D i).F w w'/\RW ty Wg C n 0 i w w') (fC:w.heap.size<=w'.heap.size)
  (fH:∀op∈au 0 fn pos es,Ok0 (ShP Wg SB) (su o C j D) (RdD o j D) (o-1+j) op) (hm:∀e∈es,∀y,(ai e).touch?=some y->y.loc.isMemory=true)
  (Bg:∀e∈es,e.loc≠.mark (.release (stA Wg))) (hl:∀e∈es,pG w'.heap.size (ai e)) (nK:co C n w'):
  iO P ty o Wg C n SB jd j ((gs.map (woken P a a' w')).setIfInBounds 0 a') w' (t++au 0 fn pos es) D q (ay d0 es):=by
 have eU:=h.wY;have ne:∀k,k≠0->Deaf (t++au 0 fn pos es) k=Deaf t k:=λk hk=>bz t (λe=>hk e.symm) _ g_of_ofEvents;refine⟨by simp[h.size],λi' g1 h0 eH kV=>?_,λi' fI=>?_,?_,by rw[Deaf_own,h.deaf0],λi' fI=>by rw[ne _ (by omega),h.deafW i' fI],λk rZ=>by rw[ne k (by omega)];exact h.above k rZ,λi' fI hst=>?_,λi' fI hst=>(jI i' fI).2.cell.trans (h.has i' fI hst),nK,eU⟩
 ·rw[bj _ _ _ _ (by omega)]at kV;obtain⟨y,hy,rfl⟩:=ao.1 kV;have hq:=h.old i' y h0 eH hy;rw[bI hq,ne i' (by omega)];exact hq
 ·obtain⟨y,hy,zL⟩:=h.wk i' fI;exact⟨y,by rw[bj _ _ _ _ (by omega),hy,ce,zL.woken],zL.rely jl (jI i' fI).1 (jI i' fI).2⟩
 ·refine h.tr.app0 S.own fC fH (λop fZ y hy=>?_) (norel_of Bg) (λop fZ=>?_)
  ·obtain⟨e,he,rfl⟩:=aj fZ;exact hm e he y hy
  ·obtain⟨e,he,rfl⟩:=aj fZ;exact hl e he
 ·obtain⟨r,hr⟩:=h.rel i' fI hst;exact⟨r,hr.appOther g_of_ofEvents (by omega)⟩
theorem iO.q9y (h:iO P ty o Wg C n SB jd j gs w t D q d0) (S:Sep Wg C SB j D FM OM w) {k:Nat} (k0:0<k) (ko:k<o) {pos:String} {q1:Nat}
  (hm:∀e∈es,e.mute=true) (hq:QuitsD P q1 (ay (Deaf t k) es) g'):
  iO P ty o Wg C n SB jd j ((gs.map (woken P g g' w)).setIfInBounds k g') w (t++au k fn pos es) D (upd q k q1) d0:=by
 have eU:=h.wY;have ne:∀k',k'≠k->Deaf (t++au k fn pos es) k'=Deaf t k':=λk' hk=>bz t (λe=>hk e.symm) _ g_of_ofEvents;have quiet:∀op∈au k fn pos es,op.act.touch?=none:=λop fZ=>by obtain⟨e,he,rfl⟩:=aj fZ;exact touch_mute (hm e he)
 refine⟨by simp[h.size],λi' g1 h0 eH kV=>?_,λi' fI=>?_,?_,by rw[ne 0 (by omega),h.deaf0],λi' fI=>by rw[ne _ (by omega),h.deafW i' fI],λk' rZ=>by rw[ne k' (by omega)];exact h.above k' rZ,λi' fI hst=>?_,h.has,h.pay,eU⟩
 ·by_cases e:i'=k
  ·subst e;rw[bA _ _ _ (by rw[h.size];omega)]at kV;cases kV;rw[ak,Deaf_own];exact hq
  ·rw[bj _ _ _ _ (λx=>e x.symm)]at kV;obtain⟨y,hy,rfl⟩:=ao.1 kV;have hq:=h.old i' y h0 eH hy;rw[bI hq,ne i' e,az q _ e];exact hq
 ·obtain⟨y,hy,zL⟩:=h.wk i' fI;exact⟨y,by rw[bj _ _ _ _ (by omega),hy,ce,zL.woken],zL⟩
 ·have A:=S.own (o:=o);refine⟨h.tr.ct.appW A (k:=k) (by omega) (by omega) λop fZ=>⟨g_of_ofEvents op fZ,λx hx=>by rw[quiet op fZ]at hx;cases hx⟩,h.tr.norel.app (norel_of λe he hl=>(by have:=hm e he;obtain⟨l,_,_⟩:=e;have hl:l=_:=hl;subst hl;cases this)),KO h.tr.hand λop fZ=>.inr (.inr (quiet op fZ)),
   Lc h.tr.known λop fZ x hx=>(by rw[quiet op fZ]at hx;cases hx),FH h.tr.mem λop fZ x hx=>(by rw[quiet op fZ]at hx;cases hx),La h.tr.seen λop fZ=>by obtain⟨e,he,rfl⟩:=aj fZ;exact DR (low_mute (hm e he) _)⟩
 ·obtain⟨r,hr⟩:=h.rel i' fI hst;exact⟨r,hr.appOther g_of_ofEvents (by omega)⟩
theorem iO.at (jl:∀i F v w w1,jd i F v w->Ext F w w1->jd i F v w1) (h:iO P ty o Wg C n SB jd j gs w t D q d0) (d:Nat):iO P ty o Wg C n SB jd j gs (w.at d) t D q d0:=
 ⟨h.size,h.old,λi hi=>let⟨g,hg,hs⟩:=h.wk i hi;⟨g,hg,hs.rely jl ⟨ji _,λ_ _=>rfl⟩ (RW.at w d)⟩,⟨h.tr.ct,h.tr.norel,h.tr.hand,h.tr.known,h.tr.mem,h.tr.seen⟩,h.deaf0,h.deafW,h.above,h.rel,h.has,h.pay,h.wY⟩
end
end
section
variable [Payload]
section
variable {P:ax} {ty:aJ} {o Wg C n:Nat} {SB:Blocks} {jd:Nat->Blocks->aK->ag->Prop} {j:Nat} {gs:Array aa} {w:ag} {t:aD} {D:Nat->WX} {q:Nat->Nat} {FM OM:Blocks}
theorem iO.spawn (h:iO P ty o Wg C n SB jd j gs w t D q 0) {x:WX} (S':Sep Wg C SB (j+1) (upd D j x) FM OM w) {child:aa} (h9:x.stage=9) (hx:x.deaf=0) (hs:WS P ty Wg C n jd j x child w) {pos:String} {fn':aW} {pos':String}:
  iO P ty o Wg C n SB jd (j+1) ((gs.setIfInBounds 0 a').push child) w (t++#[{g:=0,fn,pos,act:=.go (o+j)},{g:=o+j,fn:=fn',pos:=pos',act:=.start}]) (upd D j x) q 0:=by
 have eU:=h.wY;have quiet:∀op∈(#[{g:=0,fn,pos,act:=.go (o+j)},{g:=o+j,fn:=fn',pos:=pos',act:=.start}]:aD),op.act.touch?=none/\(op.g=0\/op.g=o+j)/\op.act≠.mark (.release (stA Wg))/\pG w.heap.size op.act:=λop fZ=>by
  simp only[aY,List.mem_cons,List.not_mem_nil,or_false]at fZ;rcases fZ with rfl|rfl
  ·exact⟨rfl,.inl rfl,by simp,DR trivial⟩
  ·exact⟨rfl,.inr rfl,by simp,DR trivial⟩
 have deaf:∀k,Deaf (t++#[{g:=0,fn,pos,act:=.go (o+j)},{g:=o+j,fn:=fn',pos:=pos',act:=.start}]) k=Deaf t k:=λk=>by
  have:=Deaf_append t k [{g:=0,fn,pos,act:=.go (o+j)},{g:=o+j,fn:=fn',pos:=pos',act:=.start}];rw[show(#[{g:=0,fn,pos,act:=.go (o+j)},{g:=o+j,fn:=fn',pos:=pos',act:=.start}]:aD)=[{g:=0,fn,pos,act:=.go (o+j)},{g:=o+j,fn:=fn',pos:=pos',act:=.start}].toArray from rfl,this];simp[deafStep]
 have Yf:∀(i:Nat),i<j->i≠j:=λi hi=>Nat.ne_of_lt hi;refine⟨by simp[h.size];omega,λi' g1 h0 eH kV=>?_,λi' fI=>?_,?_,by rw[deaf,h.deaf0],λi' fI=>?_,λk hk=>by rw[deaf];exact h.above k (by omega),λi' fI hst=>?_,λi' fI hst=>?_,h.pay,eU⟩
 ·have iP:i'<(gs.setIfInBounds 0 a').size:=by simp[h.size];omega
  rw[bw iP]at kV;have gL:gs[i']?=some g1:=by
   rw[<-kV,<-aF iP,xne (by omega)]
  rw[deaf];exact h.old i' g1 h0 eH gL
 ·by_cases e:i'=j
  ·subst e;refine⟨child,?_,by rw[ak];exact hs⟩;have:o+i'=(gs.setIfInBounds 0 a').size:=by simp[h.size]
   rw[this];exact Array.getElem?_push_size
  ·obtain⟨y,hy,zL⟩:=h.wk i' (by omega);refine⟨y,?_,by rw[az D _ e];exact zL⟩;have iP:o+i'<(gs.setIfInBounds 0 a').size:=by simp[h.size];omega
   rw[bw iP,<-aF iP,xne (by omega)];exact hy
 ·have same:∀k l,k<=o-1+j->(su o C (j+1) (upd D j x) k l↔su o C j D k l)/\(RdD o (j+1) (upd D j x) k l↔RdD o j D k l):=by
   intro k l hk;refine⟨⟨?_,?_⟩,⟨?_,?_⟩⟩
   ·rintro⟨i,hi,rfl,h1⟩;have e:i≠j:=by omega
    rw[az D _ e]at h1;exact⟨i,by omega,rfl,h1⟩
   ·rintro⟨i,hi,rfl,h1⟩;exact⟨i,by omega,rfl,by rw[az D _ (Yf i hi)];exact h1⟩
   ·rintro⟨i,hi,rfl,h1⟩;have e:i≠j:=by omega
    rw[az D _ e]at h1;exact⟨i,by omega,rfl,h1⟩
   ·rintro⟨i,hi,rfl,h1⟩;exact⟨i,by omega,rfl,by rw[az D _ (Yf i hi)];exact h1⟩
  have EF:=h.tr.ct;have ct1:CT (ShP Wg SB) (su o C (j+1) (upd D j x)) (RdD o (j+1) (upd D j x)) t (o-1+j):=
   ⟨EF.quiet,λk k1 kj l hl=>EF.own k k1 kj l ((same k l kj).1.1 hl),λk k1 kj l hl=>EF.rd k k1 kj l ((same k l kj).2.1 hl),
    λl hs hl=>EF.free l hs λk k1 kj=>⟨λy=>(hl k k1 kj).1 ((same k l kj).1.2 y),λy=>(hl k k1 kj).2 ((same k l kj).2.2 y)⟩,λl hs hl=>EF.mine l hs λk k1 kj y=>hl k k1 kj ((same k l kj).1.2 y),EF.nr,EF.gs⟩
  have e1:o-1+j+1=o+j:=by omega
  have ct2:=CT.fork S'.own ct1 (x:={g:=0,fn,pos,act:=.go (o+j)}) (y:={g:=o+j,fn:=fn',pos:=pos',act:=.start}) ⟨rfl,by rw[e1]⟩ ⟨by rw[e1],rfl⟩ h.deaf0;refine⟨ct2,h.tr.norel.app λop fZ=>(quiet op fZ).2.2.1,KO h.tr.hand λop fZ=>.inr (.inr (quiet op fZ).1),Lc h.tr.known λop fZ y hy=>(by rw[(quiet op fZ).1]at hy;cases hy),FH h.tr.mem λop fZ y hy=>(by rw[(quiet op fZ).1]at hy;cases hy),La h.tr.seen λop fZ=>(quiet op fZ).2.2.2⟩
 ·by_cases e:i'=j
  ·subst e;rw[deaf,ak,hx];exact h.above _ (ji _)
  ·rw[deaf,h.deafW i' (by omega),az D _ e]
 ·by_cases e:i'=j
  ·subst e;rw[ak]at hst;omega
  ·rw[az D _ e]at hst;obtain⟨r,hr⟩:=h.rel i' (by omega) hst;refine⟨r,hr.app λi hi hg hc=>?_⟩;obtain⟨y,hy,_⟩:=hc;obtain⟨op,fZ,Ze⟩:=cg hy;rcases aS fZ with⟨eH,_⟩|⟨_,Qv⟩
   ·omega
   ·rw[(quiet op Qv).1]at Ze;cases Ze
 ·by_cases e:i'=j
  ·subst e;rw[ak]at hst;omega
  ·rw[az D _ e]at hst⊢;exact h.has i' (by omega) hst
end
end
def JT (n:Nat):Tag->Nat->Prop
 |.wg r,j=>j+r=n
 |.kdS r,j|.ad r,j|.rs r,j|.en r,j|.gos r,j=>j+r+1=n
 |_,j=>j=n
def jM (j:Nat) (D:Nat->WX):Nat:=sumTo j λi=>(D i).stage
def lq (j:Nat) (D:Nat->WX):Nat:=sumTo j λi=>(D i).fuel
def ranks (n:Nat) (D:Nat->WX) (rk:Rank):Nat->Rank:=λi=>if i=n then rk else(D i).rank
structure Kept (Wg C L0:Nat) (w0:ag) (j:Nat) (D:Nat->WX) (OM:Blocks) (w:ag):Prop where
 keep:∀b,b<L0->w.heap[b]?=w0.heap[b]?
 lW:L0<=Wg
 lC:L0<=C
 lO:∀i,i<j->∀b,(D i).O b->L0<=b
 lM:∀b,OM b->L0<=b
 tape:w.tape=w0.tape
 os:w.os=w0.os
 output:w.output=w0.output
 nb:NB w0->NB w
theorem Ll {b:Nat} (_:∀r,r≠b->w'.heap[r]?=w.heap[r]?) (_:∃c e z,w'.heap[b]?=some (.cells c e z)) (_:NB w):NB w':=trivial
section
variable [Payload] (P:ax) (ty:aJ) (o Wg C n:Nat) (SB:Blocks) (jd:Nat->Blocks->aK->ag->Prop) (K:aa->ag->Prop) (L0:Nat) (w0:ag)
def vG (μ:Mea) (m:Machine) (t:aD):Prop:=
 ∃(gs:Array aa) (w:ag) (sl:Option (Nat×Nat)) (j:Nat) (D:Nat->WX) (q:Nat->Nat) (tag:Tag) (f0 d0:Nat) (rk:Rank) (FM OM:Blocks) (a:aa) (st sm:Int),
  m=crowd gs w sl/\gs[0]?=some a/\MS P ty Wg C n jd K tag f0 d0 rk FM OM a w/\iO P ty o Wg C n SB jd j gs w t D q d0/\Sep Wg C SB j D FM OM w/\WgAt ty Wg w st sm/\Mo j (xd D) tag st sm/\JT n tag j/\
  Kept Wg C L0 w0 j D OM w/\μ=(psi n (Vc j (xd D)) tag+jM j D,ranks n D rk,f0+2*lq j D+2*sumTo o q)
end
theorem JT.retag {tag tag':Tag} (h:JT n tag j) (e:tag'=tag\/(tag=.blk/\tag'=.sm)):JT n tag' j:=by
 rcases e with rfl|⟨rfl,rfl⟩
 ·exact h
 ·exact h
theorem VF (n v:Nat) {tag tag':Tag} (e:tag'=tag\/(tag=.blk/\tag'=.sm)):psi n v tag'=psi n v tag:=by
 rcases e with rfl|⟨rfl,rfl⟩<;>rfl
theorem q49 (n:Nat) {v v':Nat} (h:v'<=v) (tag:Tag):psi n v' tag<=psi n v tag:=by
 cases tag<;>simp only[psi]<;>omega
theorem JT.le {tag:Tag} (h:JT n tag j):j<=n:=by
 cases tag<;>simp only[JT]at h<;>omega
section
variable [Payload] {P:ax} {ty:aJ} {o Wg C n:Nat} {SB:Blocks} {jd:Nat->Blocks->aK->ag->Prop} {K:aa->ag->Prop} {L0:Nat} {w0:ag} {gs:Array aa} {w w':ag} {sl:Option (Nat×Nat)} {j:Nat} {D:Nat->WX} {q:Nat->Nat} {tag:Tag} {f0 d0:Nat} {rk:Rank} {FM OM:Blocks} {a:aa} {t:aD}
theorem workerStep (jl:∀i F v w w1,jd i F v w->Ext F w w1->jd i F v w1) (ha:gs[0]?=some a) (kQ:MS P ty Wg C n jd K tag f0 d0 rk FM OM a w) (eP:iO P ty o Wg C n SB jd j gs w t D q d0) (S:Sep Wg C SB j D FM OM w) (fK:JT n tag j) (fD:Kept Wg C L0 w0 j D OM w) (hi:i<j) {x:WX} {st' sm':Int} (hg:gs[o+i]?=some g) (hgo:aw P false g w=.go g' w' es)
  (S':Sep Wg C SB j (upd D i x) FM OM w') (hRM:RM ty Wg FM w w')
  (jI:∀i',i'<j->i'≠i->Ext (D i').F w w'/\RW ty Wg C n 0 i' w w') (oP:WS P ty Wg C n jd i x g' w') (fC:w.heap.size<=w'.heap.size)
  (hF:∀b,(D i).F b->x.F b) (hO:∀b,(D i).O b->x.O b) (lG:∀b,x.F b->(D i).F b\/w.heap.size<=b) (xZ:∀b,x.O b->(D i).O b\/w.heap.size<=b)
  (hk:∀e∈es,∀y,(ai e).touch?=some y->y.loc.isMemory=true/\((ShP Wg SB y.loc/\y.kind=.atomic)\/(y.kind=.plain/\(su o C j (upd D i x) (o+i) y.loc\/(RdD o j (upd D i x) (o+i) y.loc/\y.write=false)))))
  (Bg:∀e∈es,e.loc≠.mark (.release (stA Wg))) (hl:∀e∈es,pG w'.heap.size (ai e))
  (yR:ay (D i).deaf es=x.deaf) (hrel:x.stage<=6->∃r,RelBy (stA Wg) (t++au (o+i) g.frame.fn g.frame.place es) (o+i) r)
  (gQ:x.stage<=6->Has C i x.val w') (nK:co C n w') (fG:WgAt ty Wg w' st' sm')
  (dY:∀tag',(tag'=tag\/(tag=.blk/\tag'=.sm))->(mayWake P g=true->g'.status=.running->tag'≠.blk)->Mo j (xd (upd D i x)) tag' st' sm')
  (pO:Kept Wg C L0 w0 j (upd D i x) OM w')
  (eH:(x.stage<(D i).stage/\cnt (xd (upd D i x) i)<=cnt (xd D i))\/(x.stage=(D i).stage/\Rank.sub x.rank (D i).rank)\/(x.stage=(D i).stage/\x.rank=(D i).rank/\x.fuel+1=(D i).fuel)):
  ∃m₁ ops μ',runT P (crowd gs w sl) (o+i)=(.next m₁,ops)/\MLt (n+1) μ' (psi n (Vc j (xd D)) tag+jM j D,ranks n D rk,f0+2*lq j D+2*sumTo o q)/\vG P ty o Wg C n SB jd K L0 w0 μ' m₁ (t++ops):=by
 have eU:=eP.wY;have I6:=fK.le;obtain⟨tag',f',xB,vT,tY,L9⟩:=kQ.wokenBy hRM g g';have fu:=bp (P:=P) (sl:=sl) (i:=o+i) hg (by rw[show(o+i==0)=false from by simp;omega];exact hgo);have iH:=eP.stepW (fn:=g.frame.fn) (pos:=g.frame.place) jl S hi S' jI oP fC hF hO lG xZ hk Bg hl yR hrel gQ nK (g:=g);refine⟨_,_,_,fu,?_,_,w',sl,j,upd D i x,q,tag',f',d0,rk,FM,OM,woken P g g' w' a,st',sm',rfl,by rw[bj _ _ _ _ (by omega),ha];rfl,xB,iH,S',fG,dY tag' tY L9,fK.retag tY,pO,rfl⟩;rw[VF n _ tY];have e1:=sumTo_upd D x (λd:WX=>cnt ⟨if d.stage=9 then 7 else d.stage,d.fuel,d.deaf⟩) hi;have e2:=sumTo_upd D x WX.stage hi;have e3:=sumTo_upd D x WX.fuel hi;have c1:cnt (xd (upd D i x) i)=cnt ⟨if x.stage=9 then 7 else x.stage,x.fuel,x.deaf⟩:=by simp only[xd,ak]
 have v1:Vc j (xd (upd D i x))=sumTo j λa=>cnt ⟨if(upd D i x a).stage=9 then 7 else(upd D i x a).stage,(upd D i x a).fuel,(upd D i x a).deaf⟩:=rfl;have v2:Vc j (xd D)=sumTo j λa=>cnt ⟨if(D a).stage=9 then 7 else(D a).stage,(D a).fuel,(D a).deaf⟩:=rfl;rcases eH with⟨h1,h2⟩|⟨h1,h2⟩|⟨h1,h2,h3⟩
 ·refine bh _ _ ?_;rw[c1]at h2;have h2':cnt ⟨if x.stage=9 then 7 else x.stage,x.fuel,x.deaf⟩<=cnt ⟨if(D i).stage=9 then 7 else(D i).stage,(D i).fuel,(D i).deaf⟩:=h2;have:=q49 n (v':=Vc j (xd (upd D i x))) (v:=Vc j (xd D)) (by rw[v1,v2];omega) tag;simp only[jM];omega
 ·have ec:cnt ⟨if x.stage=9 then 7 else x.stage,x.fuel,x.deaf⟩=cnt ⟨if(D i).stage=9 then 7 else(D i).stage,(D i).fuel,(D i).deaf⟩:=by simp only[cnt,h1]
  have ev:Vc j (xd (upd D i x))=Vc j (xd D):=by rw[v1,v2];omega
  have es:jM j (upd D i x)=jM j D:=by simp only[jM];omega
  rw[ev,es];refine aR _ (bh _ _ ⟨i,by omega,?_,λk hk=>?_⟩)
  ·simp only[ranks,ak];rw[if_neg (by omega),if_neg (by omega)];exact h2
  ·simp only[ranks];rw[az D _ hk]
 ·have ec:cnt ⟨if x.stage=9 then 7 else x.stage,x.fuel,x.deaf⟩=cnt ⟨if(D i).stage=9 then 7 else(D i).stage,(D i).fuel,(D i).deaf⟩:=by simp only[cnt,h1]
  have ev:Vc j (xd (upd D i x))=Vc j (xd D):=by rw[v1,v2];omega
  have es:jM j (upd D i x)=jM j D:=by simp only[jM];omega
  have er:ranks n (upd D i x) rk=ranks n D rk:=by
   funext k;simp only[ranks];by_cases e:k=i
   ·subst e;rw[ak,h2]
   ·rw[az D _ e]
  rw[ev,es,er];refine aR _ (aR _ ?_);simp only[lq];omega
end
section
variable [Payload] {P:ax} {ty:aJ} {o Wg C n:Nat} {SB:Blocks} {jd:Nat->Blocks->aK->ag->Prop} {K:aa->ag->Prop} {L0:Nat} {w0:ag} {gs:Array aa} {w w':ag} {sl:Option (Nat×Nat)} {j:Nat} {D:Nat->WX} {q:Nat->Nat} {tag:Tag} {f0 d0:Nat} {rk:Rank} {FM OM:Blocks} {a:aa} {t:aD}
theorem callerStep (jl:∀i F v w w1,jd i F v w->Ext F w w1->jd i F v w1) (ha:gs[0]?=some a) (eP:iO P ty o Wg C n SB jd j gs w t D q d0) (S:Sep Wg C SB j D FM OM w) {tag':Tag} {f':Nat} {C9:Rank} {Ab Aa:Blocks} {st' sm':Int} (hgo:aw P true a w=.go a' w' es)
  (xB:MS P ty Wg C n jd K tag' f' (ay d0 es) C9 Ab Aa a' w') (S':Sep Wg C SB j D Ab Aa w')
  (jI:∀i,i<j->Ext (D i).F w w'/\RW ty Wg C n 0 i w w') (fC:w.heap.size<=w'.heap.size)
  (fH:∀op∈au 0 a.frame.fn a.frame.place es,Ok0 (ShP Wg SB) (su o C j D) (RdD o j D) (o-1+j) op) (hm:∀e∈es,∀y,(ai e).touch?=some y->y.loc.isMemory=true)
  (Bg:∀e∈es,e.loc≠.mark (.release (stA Wg))) (hl:∀e∈es,pG w'.heap.size (ai e)) (nK:co C n w')
  (fG:WgAt ty Wg w' st' sm') (dY:Mo j (xd D) tag' st' sm') (fK:JT n tag' j) (pO:Kept Wg C L0 w0 j D Aa w')
  (eH:psi n (Vc j (xd D)) tag'<psi n (Vc j (xd D)) tag\/(psi n (Vc j (xd D)) tag'=psi n (Vc j (xd D)) tag/\Rank.sub C9 rk)\/(psi n (Vc j (xd D)) tag'=psi n (Vc j (xd D)) tag/\C9=rk/\f'<f0)):
  ∃m₁ ops μ',runT P (crowd gs w sl) 0=(.next m₁,ops)/\MLt (n+1) μ' (psi n (Vc j (xd D)) tag+jM j D,ranks n D rk,f0+2*lq j D+2*sumTo o q)/\vG P ty o Wg C n SB jd K L0 w0 μ' m₁ (t++ops):=by
 have eU:=eP.wY;have I6:=fK.le;have fu:=bp (P:=P) (sl:=sl) (i:=0) ha (show aw P (0==0) a w=_ from hgo);have iH:=eP.step0 (fn:=a.frame.fn) (pos:=a.frame.place) jl S jI fC fH hm Bg hl nK (a:=a) (a':=a');refine⟨_,_,_,fu,?_,_,w',sl,j,D,q,tag',f',ay d0 es,C9,Ab,Aa,a',st',sm',rfl,bA _ _ _ (by rw[eP.size];omega),xB,iH,S',fG,dY,fK,pO,rfl⟩;rcases eH with h|⟨h1,h2⟩|⟨h1,h2,h3⟩
 ·exact bh _ _ (by omega)
 ·rw[h1];refine aR _ (bh _ _ ⟨n,by omega,by simp only[ranks,if_true];exact h2,λk hk=>?_⟩);simp only[ranks];rw[if_neg hk,if_neg hk]
 ·rw[h1,h2];exact aR _ (aR _ (by omega))
theorem q81 (ha:gs[0]?=some a) (kQ:MS P ty Wg C n jd K tag f0 d0 rk FM OM a w) (eP:iO P ty o Wg C n SB jd j gs w t D q d0) (S:Sep Wg C SB j D FM OM w) (fK:JT n tag j) (fD:Kept Wg C L0 w0 j D OM w)
  {st sm:Int} (fG:WgAt ty Wg w st sm) (dY:∀tag',(tag'=tag\/(tag=.blk/\tag'=.sm))->Mo j (xd D) tag' st sm) {k:Nat} (k0:0<k) (ko:k<o) (hg:gs[k]?=some g) (fu:g.status=.running):
  ∃m₁ ops μ',runT P (crowd gs w sl) k=(.next m₁,ops)/\MLt (n+1) μ' (psi n (Vc j (xd D)) tag+jM j D,ranks n D rk,f0+2*lq j D+2*sumTo o q)/\vG P ty o Wg C n SB jd K L0 w0 μ' m₁ (t++ops):=by
 have hq:=eP.old k g k0 ko hg;cases Qr:q k with
 |zero=>rw[Qr]at hq;rw[hq.1]at fu;cases fu
 |succ q1=>
  rw[Qr]at hq;rcases hq with⟨hf,_⟩|⟨_,g',es,hm,EJ,Em⟩
  ·rw[hf]at fu;cases fu
  have rO:=bp (P:=P) (sl:=sl) (i:=k) hg (by rw[show(k==0)=false from by simp;omega];exact EJ w);obtain⟨tag',f',xB,vT,tY,L9⟩:=kQ.wokenBy (jw w) g g';refine⟨_,_,_,rO,?_,_,w,sl,j,D,upd q k q1,tag',f',d0,rk,FM,OM,woken P g g' w a,st,sm,rfl,by rw[bj _ _ _ _ (by omega),ha];rfl,xB,eP.q9y S k0 ko hm Em,S,fG,dY tag' tY,fK.retag tY,fD,rfl⟩;rw[VF n _ tY];have RQ:sumTo o (upd q k q1)+(q1+1)=sumTo o q+q1:=by
   have:=sumTo_upd q q1 id ko;simpa[Qr]using this
  exact aR _ (aR _ (by omega))
end
section
variable [Payload] {P:ax} {ty:aJ} {o Wg C n:Nat} {SB:Blocks} {jd:Nat->Blocks->aK->ag->Prop} {K:aa->ag->Prop} {L0:Nat} {w0:ag} {gs:Array aa} {w w':ag} {sl:Option (Nat×Nat)} {j:Nat} {D:Nat->WX} {q:Nat->Nat} {tag:Tag} {f0 d0:Nat} {rk:Rank} {FM OM:Blocks} {a:aa} {t:aD} {st sm:Int}
theorem Uc (hW:w'.heap[Wg]?=w.heap[Wg]?) (hC:w'.heap[C]?=w.heap[C]?):RW ty Wg C n 0 i w w':=
 ⟨λb hb=>absurd hb (aq b),λ⟨s,m,h⟩=>⟨s,m,by unfold WgAt at *; rw[hW];exact h⟩,λ⟨cs,h1,h2⟩=>⟨cs,by rw[hC];exact h1,h2⟩,cell_of_block hC i⟩
omit [Payload] in
theorem Mo.congr {D D':Nat->WD} {tag:Tag} (h:∀a,a<j->(D' a).stage=(D a).stage) (hm:Mo j D tag st sm):Mo j D' tag st sm:=by
 have hv:Vc j D'=Vc j D:=sumTo_congr λa ha=>by simp only[cnt,h a ha]
 cases hm with
 |opn h1 h2 h3=>rw[<-hv];exact .opn h1 (λa ha=>by rw[h a ha];exact h2 a ha) (λvs e=>by rw[hv];exact h3 vs e)
 |reg h1 h2 h3=>rw[<-hv];exact .reg h1 (λa ha=>by rw[h a ha];exact h2 a ha) (by rw[hv];exact h3)
 |last L h1 h2 h3 h4=>rw[<-h L h2];exact .last L h1 h2 (by rw[h L h2];exact h3) (λa ha e=>by rw[h a ha];exact h4 a ha e)
 |sema h1 h2=>exact .sema h1 λa ha=>by rw[h a ha];exact h2 a ha
 |fin h1 h2=>exact .fin h1 λa ha=>by rw[h a ha];exact h2 a ha
omit [Payload] in
theorem Mo.retag {D:Nat->WD} {tag tag':Tag} (h:Mo j D tag st sm) (e:tag'=tag\/(tag=.blk/\tag'=.sm)):Mo j D tag' st sm:=by
 rcases e with rfl|⟨rfl,rfl⟩
 ·exact h
 ·cases h with
  |opn h1 _ _=>exact h1.elim
  |reg _ h2 h3=>exact .reg trivial h2 h3
  |last L _ h2 h3 h4=>exact .last L trivial h2 h3 h4
  |sema h1 _=>rcases h1 with h1|h1<;>cases h1
  |fin h1 _=>exact h1.elim
omit [Payload] in
theorem OI {F O:Blocks} (h:EvF F O e) {y:Touch} (hy:(ai e).touch?=some y):y.loc.isMemory=true/\y.kind=.plain/\wJ F y.loc/\(y.write=true->wJ O y.loc):=by
 obtain⟨loc,wt,sy⟩:=e;cases loc with
 |cell b=>
  obtain⟨h1,h2,h3⟩:=h;have h1:sy=false:=h1;subst h1;rw[cq]at hy;simp only[aM,aB]at hy;subst hy;exact⟨rfl,rfl,h2,h3⟩
 |obj r=>
  obtain⟨h1,h2,h3⟩:=h;have h1:sy=false:=h1;subst h1;have e0:ai ⟨.obj r,wt,false⟩=.access ⟨.obj r,wt,false⟩:=by cases wt<;>rfl
  rw[e0]at hy;simp only[aM,aB]at hy;subst hy;exact⟨rfl,rfl,h2,h3⟩
 |mark m=>
  cases m with
  |noRoom=>simp[ai,aM]at hy
  |_=>exact h.elim
 |_=>exact h.elim
omit [Payload] in
theorem Cj {F O:Blocks} (h:EvF F O e) (hB:∀b,F b->b<B):e.loc≠.mark .disable/\e.loc≠.mark .enable/\e.loc≠.mark (.release (stA Wg))/\(ai e).low B:=by
 have:=Kh (SB:=λ_=>False) h (λ_ _ x=>x) hB;refine⟨this.2.1,this.2.2.1,λhl=>?_,this.2.2.2⟩;obtain⟨loc,wt,sy⟩:=e;have hl:loc=_:=hl;subst hl;exact h
end
section
variable [Payload] {P:ax} {ty:aJ} {o Wg C n:Nat} {SB:Blocks} {jd:Nat->Blocks->aK->ag->Prop} {K:aa->ag->Prop} {L0:Nat} {w0:ag} {gs:Array aa} {w w':ag} {sl:Option (Nat×Nat)} {j:Nat} {D:Nat->WX} {q:Nat->Nat} {tag:Tag} {f0 d0:Nat} {rk:Rank} {FM OM:Blocks} {a:aa} {t:aD} {st sm:Int}
omit [Payload] in
theorem Sep.stepW (S:Sep Wg C SB j D FM OM w) (hi:i<j) {x:WX} (fC:w.heap.size<=w'.heap.size) (lG:∀b,x.F b->(D i).F b\/w.heap.size<=b) (xZ:∀b,x.O b->(D i).O b\/w.heap.size<=b) (gH:∀b,x.O b->x.F b) (jO:∀b,x.F b->b<w'.heap.size):Sep Wg C SB j (upd D i x) FM OM w':=by
 have lW:=S.lW;have lC:=S.lC;refine⟨λi' fI b hb=>?_,λi' fI b hb=>?_,λi1 i2 h1 h2 fA b hb gq=>?_,λb hb=>?_,λb hb=>?_,xll S.lW fC,xll S.lC fC,λb hb=>xll (S.lS b hb) fC,S.hCW,S.sW,S.sC⟩
 ·by_cases e:i'=i
  ·subst e;rw[ak]at hb;refine⟨jO b hb,?_⟩;rcases lG b hb with h|h
   ·exact(S.wF i' fI b h).2
   ·exact⟨by omega,by omega,λhs=>by have:=S.lS b hs;omega⟩
  ·rw[az D _ e]at hb;have:=S.wF i' fI b hb;exact⟨by omega,this.2⟩
 ·by_cases e:i'=i
  ·subst e;rw[ak]at hb⊢;exact gH b hb
  ·rw[az D _ e]at hb⊢;exact S.wO i' fI b hb
 ·by_cases e1:i1=i
  ·subst e1;rw[ak]at hb;rw[az D _ (λh=>fA h.symm)]at gq;rcases xZ b hb with h|h
   ·exact S.apart _ _ h1 h2 fA b h gq
   ·have:=(S.wF i2 h2 b gq).1;omega
  ·rw[az D _ e1]at hb;by_cases e2:i2=i
   ·subst e2;rw[ak]at gq;rcases lG b gq with h|h
    ·exact S.apart _ _ h1 h2 fA b hb h
    ·have:=(S.wF i1 h1 b (S.wO i1 h1 b hb)).1;omega
   ·rw[az D _ e2]at gq;exact S.apart _ _ h1 h2 fA b hb gq
 ·have:=S.mF b hb;refine⟨by omega,this.2.1,this.2.2.1,this.2.2.2.1,λi' fI ho=>?_⟩;by_cases e:i'=i
  ·subst e;rw[ak]at ho;rcases xZ b ho with h|h
   ·exact this.2.2.2.2 i' fI h
   ·omega
  ·rw[az D _ e]at ho;exact this.2.2.2.2 i' fI ho
 ·have h1:=S.mO b hb;have h2:=S.mF b h1.1;refine⟨h1.1,λi' fI hf=>?_⟩;by_cases e:i'=i
  ·subst e;rw[ak]at hf;rcases lG b hf with h|h
   ·exact h1.2 i' fI h
   ·omega
  ·rw[az D _ e]at hf;exact h1.2 i' fI hf
omit [Payload] in
theorem Kept.stepW (h:Kept Wg C L0 w0 j D OM w) {x:WX} (Zj:L0<=w.heap.size) (vE:∀b,b<L0->w'.heap[b]?=w.heap[b]?) (xZ:∀b,x.O b->(D i).O b\/w.heap.size<=b) (ht:w'.tape=w.tape) (hos:w'.os=w.os) (uf:w'.output=w.output) (pM:NB w->NB w'):Kept Wg C L0 w0 j (upd D i x) OM w':=by
 refine⟨λb hb=>(vE b hb).trans (h.keep b hb),h.lW,h.lC,λi' fI b hb=>?_,h.lM,ht.trans h.tape,hos.trans h.os,uf.trans h.output,λx=>pM (h.nb x)⟩;by_cases e:i'=i
 ·subst e;rw[ak]at hb;rcases xZ b hb with y|y
  ·exact h.lO i' fI b y
  ·omega
 ·rw[az D _ e]at hb;exact h.lO i' fI b hb
theorem q83 (jl:∀i F v w w1,jd i F v w->Ext F w w1->jd i F v w1) (ha:gs[0]?=some a) (kQ:MS P ty Wg C n jd K tag f0 d0 rk FM OM a w) (eP:iO P ty o Wg C n SB jd j gs w t D q d0) (S:Sep Wg C SB j D FM OM w) (fK:JT n tag j) (fD:Kept Wg C L0 w0 j D OM w)
  (fG:WgAt ty Wg w st sm) (dY:Mo j (xd D) tag st sm) (hi:i<j) (hg:gs[o+i]?=some g) (h9:(D i).stage=9) (hd:(D i).deaf=0) {f:ag->Rank} (Cv:(D i).rank=.node f)
  (hw:WGo P false (FO P ty Wg C n jd i) (.node f) (D i).F (D i).O g w):
  ∃m₁ ops μ',runT P (crowd gs w sl) (o+i)=(.next m₁,ops)/\MLt (n+1) μ' (psi n (Vc j (xd D)) tag+jM j D,ranks n D rk,f0+2*lq j D+2*sumTo o q)/\vG P ty o Wg C n SB jd K L0 w0 μ' m₁ (t++ops):=by
 obtain⟨F',O',g',w',es,hgo,ok,sS⟩:=hw.2 w (Ext.refl ..);have lW:=S.lW;have lC:=S.lC;have nO:∀b,(D i).O b->b≠Wg/\b≠C:=λb hb=>⟨(S.wF i hi b (S.wO i hi b hb)).2.1,(S.wF i hi b (S.wO i hi b hb)).2.2.1⟩
 have hW:w'.heap[Wg]?=w.heap[Wg]?:=ok.keep Wg lW λh=>(nO Wg h).1 rfl;have hC:w'.heap[C]?=w.heap[C]?:=ok.keep C lC λh=>(nO C h).2 rfl
 let x:WX:=⟨9,0,0,f w,F',O',(D i).val⟩
 have S':Sep Wg C SB j (upd D i x) FM OM w':=S.stepW hi (x:=x) ok.size ok.new ok.BI ok.own ok.low;have iM:WgAt ty Wg w' st sm:=by unfold WgAt at *; rw[hW];exact fG
 refine workerStep jl ha kQ eP S fK fD hi hg hgo (x:=x) S' ⟨⟨ok.size,λb hb=>ok.keep b (S.mF b hb).1 ((S.mF b hb).2.2.2.2 i hi)⟩,λ_=>⟨_,_,iM⟩⟩
  (λi' fI fA=>⟨⟨ok.size,λb hb=>ok.keep b (S.wF i' fI b hb).1 λho=>S.apart i i' hi fI (λe=>fA e.symm) b ho hb⟩,Uc hW hC⟩)
  (.own rfl rfl rfl sS) ok.size ok.sub ok.PZ ok.new ok.BI (λe he y hy=>?_) (λe he=>(Cj (ok.ev e he) ok.low).2.2.1) (λe he=>DR (Cj (Wg:=Wg) (ok.ev e he) ok.low).2.2.2)
  ?_ (λh=>absurd (show 9<=6 from h) (by decide)) (λh=>absurd (show 9<=6 from h) (by decide)) ?_ iM (λtag' ht _=>(dY.congr λa' _=>?_).retag ht) ?_ (.inr (.inl ⟨h9.symm,by rw[Cv];exact⟨w,rfl⟩⟩))
 ·obtain⟨h1,h2,h3,h4⟩:=OI (ok.ev e he) hy;refine⟨h1,.inr ⟨h2,?_⟩⟩;by_cases ho:wJ O' y.loc
  ·exact .inl ⟨i,hi,rfl,.inl (by rw[ak];exact ho)⟩
  ·refine .inr ⟨⟨i,hi,rfl,?_⟩,by cases hyw:y.write with|false=>rfl|true=>exact absurd (h4 hyw) ho⟩;rw[ak];show wJ (λb=>F' b/\¬O' b) y.loc;generalize y.loc=l at h3 ho;cases l with
   |cell c=>exact⟨h3,ho⟩
   |obj c=>exact⟨h3,ho⟩
   |_=>exact h3.elim
 ·rw[hd];exact deafBehind_idle (λe he=>⟨(Cj (Wg:=Wg) (ok.ev e he) ok.low).1,(Cj (Wg:=Wg) (ok.ev e he) ok.low).2.1⟩) 0
 ·obtain⟨cs,h1,h2⟩:=eP.pay;exact⟨cs,by rw[hC];exact h1,h2⟩
 ·by_cases e:a'=i
  ·subst e;simp only[xd,ak,h9,x]
  ·simp only[xd];rw[az D _ e]
 ·exact fD.stepW (x:=x) (xlt fD.lW (bJ lW)) (λb hb=>ok.keep b (xll hb (xlt fD.lW (bJ lW))) λho=>by have:=fD.lO i hi b ho;omega) ok.BI ok.tape ok.os ok.output ok.nb
end
end
section
open Go Go.Conc Go.ConcN Sim
open Go.ConcR (KK WgAt stA smA rd wr mk Payload DC0 g_of_ofEvents Bk bk_of_mute ofEvent_loc_mark ofEvent_cell)
section
variable [Payload] {C n i:Nat} {w:ag}
theorem qok (hp:co C n w) (v:aK):AsideCell C n i w (w.setCell ⟨C,i,none⟩ v):=by
 have hA:=aI w ⟨C,i,none⟩ v;obtain⟨arr,h1,h2⟩:=hp;have hb:(w.setCell ⟨C,i,none⟩ v).heap[C]?=some (.cells (arr.setIfInBounds i v) Payload.ety):=by
  rw[cy w C i arr _ (0,0) _ h1,setRow_heap w C _ _ _ _ h1]
 refine⟨hA.tape,hA.os,hA.output,hA.size,λb gK=>hA.block b gK,λ_=>⟨_,hb,by simpa using h2⟩,λi' fI=>?_⟩;simp[World.cell?,hb,h1,xne (Ne.symm fI)]
theorem q8e (hp:co C n w) (hj:i<n) (v:aK):Has C i v (w.setCell ⟨C,i,none⟩ v):=by
 obtain⟨arr,h1,h2⟩:=hp;have hb:(w.setCell ⟨C,i,none⟩ v).heap[C]?=some (.cells (arr.setIfInBounds i v) Payload.ety):=by
  rw[cy w C i arr _ (0,0) _ h1,setRow_heap w C _ _ _ _ h1]
 simp[Has,World.cell?,hb,h2,hj]
omit [Payload] in
theorem q8r (hW:Wg<B) (h:Bk Wg e):pG B (ai e):=by
 intro y hy;rcases h with h1|h1|⟨a,wr,rfl,ha⟩
 ·rw[ofEvent_loc_mark h1]at hy;cases hy
 ·rw[ofEvent_loc_mark h1]at hy;cases hy
 ·rw[ofEvent_cell]at hy;simp only[aM,aB]at hy;subst hy;show a.block<B;omega
end
section
variable [Payload] {P:ax} {ty:aJ} {o Wg C n:Nat} {SB:Blocks} {jd:Nat->Blocks->aK->ag->Prop} {K:aa->ag->Prop} {L0:Nat} {w0:ag} {gs:Array aa} {w w':ag} {sl:Option (Nat×Nat)} {j:Nat} {D:Nat->WX} {q:Nat->Nat} {tag:Tag} {f0 d0:Nat} {rk:Rank} {FM OM:Blocks} {a:aa} {t:aD} {st sm:Int}
omit [Payload] in
theorem Sep.same (S:Sep Wg C SB j D FM OM w) (hi:i<j) {x:WX} (hF:x.F=(D i).F) (hO:x.O=(D i).O) (fC:w.heap.size<=w'.heap.size):Sep Wg C SB j (upd D i x) FM OM w':=
 S.stepW hi fC (λb hb=>.inl (hF▸hb)) (λb hb=>.inl (hO▸hb)) (λb hb=>by rw[hF];rw[hO]at hb;exact S.wO i hi b hb) (λb hb=>by rw[hF]at hb;have:=(S.wF i hi b hb).1;omega)
theorem q0k (jl:∀i F v w w1,jd i F v w->Ext F w w1->jd i F v w1) (ha:gs[0]?=some a) (kQ:MS P ty Wg C n jd K tag f0 d0 rk FM OM a w) (eP:iO P ty o Wg C n SB jd j gs w t D q d0) (S:Sep Wg C SB j D FM OM w) (fK:JT n tag j) (fD:Kept Wg C L0 w0 j D OM w)
  (fG:WgAt ty Wg w st sm) (dY:Mo j (xd D) tag st sm) (hi:i<j) (hg:gs[o+i]?=some g) (h9:(D i).stage=9) (hd:(D i).deaf=0)
  (hs:FO P ty Wg C n jd i (D i).F (D i).O g w):
  ∃m₁ ops μ',runT P (crowd gs w sl) (o+i)=(.next m₁,ops)/\MLt (n+1) μ' (psi n (Vc j (xd D)) tag+jM j D,ranks n D rk,f0+2*lq j D+2*sumTo o q)/\vG P ty o Wg C n SB jd K L0 w0 μ' m₁ (t++ops):=by
 obtain⟨_,v,pX,hx⟩:=hs;obtain⟨g',hgo,m,hk⟩:=hx w (Ext.refl ..) eP.pay ⟨_,_,fG⟩;have lW:=S.lW;have lC:=S.lC;have hA:AsideCell C n i w (w.setCell ⟨C,i,none⟩ v):=qok eP.pay v
 let x:WX:=⟨7,m,0,.leaf,(D i).F,(D i).O,v⟩
 have S':Sep Wg C SB j (upd D i x) FM OM (w.setCell ⟨C,i,none⟩ v):=S.same hi (x:=x) rfl rfl (by rw[hA.size];exact ji _);have iM:WgAt ty Wg (w.setCell ⟨C,i,none⟩ v) st sm:=fG.of_block (hA.block Wg (Ne.symm S.hCW));have nM:∀{F:Blocks},¬F C->Ext F w (w.setCell ⟨C,i,none⟩ v):=λhn=>⟨by rw[hA.size];exact ji _,λb hb=>hA.block b λe=>hn (e▸hb)⟩
 have ZG:∀i',i'<j->¬(D i').F C:=λi' fI h=>(S.wF i' fI C h).2.2.1 rfl;refine workerStep jl ha kQ eP S fK fD hi hg hgo (x:=x) S' ⟨nM λh=>(S.mF C h).2.2.1 rfl,λ_=>⟨_,_,iM⟩⟩
  (λi' fI fA=>⟨nM (ZG i' fI),RW.of_cell hA fA S.hCW⟩)
  (.lib (.r0 hk) (jl _ _ _ _ _ pX (nM (ZG i hi)))) (by rw[hA.size];exact ji _) (λ_ h=>h) (λ_ h=>h) (λ_ h=>.inl h) (λ_ h=>.inl h) (λe he y hy=>?_) (λe he=>?_) (λe he y hy=>?_)
  ?_ (λh=>absurd (show 7<=6 from h) (by decide)) (λh=>absurd (show 7<=6 from h) (by decide)) (hA.pay eP.pay) iM (λtag' ht _=>(dY.congr λa' _=>?_).retag ht) ?_ (.inl ⟨by rw[h9];exact(by decide:7<9),?_⟩)
 ·simp only[aY,aZ]at he;subst he;rw[cq]at hy;simp only[aM,aB]at hy;subst hy;exact⟨rfl,.inr ⟨rfl,.inl ⟨i,hi,rfl,.inr rfl⟩⟩⟩
 ·simp only[aY,aZ]at he;subst he;simp
 ·simp only[aY,aZ]at he;subst he;rw[cq]at hy;simp only[aM,aB]at hy;subst hy;show C<_;rw[hA.size];exact lC
 ·rw[hd];rfl
 ·by_cases e:a'=i
  ·subst e;simp only[xd,ak,h9,x];decide
  ·simp only[xd];rw[az D _ e]
 ·refine fD.stepW (x:=x) (xlt fD.lW (bJ lW)) (λb hb=>hA.block b λe=>?_) (λb hb=>.inl hb) hA.tape hA.os hA.output (Ll hA.block (let⟨_,h,_⟩:=hA.pay eP.pay;⟨_,_,_,h⟩));have:=fD.lC;omega
 ·simp only[xd,ak,h9,x];simp[cnt]
end
theorem Ka (D:Nat->WX) (i:Nat) (x:WX):xd (upd D i x)=upd (xd D) i ⟨if x.stage=9 then 7 else x.stage,x.fuel,x.deaf⟩:=by
 funext k;by_cases e:k=i
 ·subst e;simp only[xd,ak]
 ·rw[az (xd D) _ e];simp only[xd];rw[az D _ e]
theorem JT.bound {tag:Tag} (h:JT n tag j):j+mX tag<=n:=by
 cases tag<;>simp only[JT,mX]at h⊢<;>omega
section
variable {j i:Nat} {D:Nat->WD} {tag:Tag} {st sm:Int}
theorem Mo.same (hm:Mo j D tag st sm) (m' nX:Nat):Mo j (upd D i ⟨(D i).stage,m',nX⟩) tag st sm:=
 hm.congr λa _=>by
  by_cases e:a=i
  ·subst e;rw[ak]
  ·rw[az D _ e]
theorem Mo.counted (hm:Mo j D tag st sm) (hi:i<j) (h5:5<=(D i).stage) {s':Nat} (hs:s'=6\/s'=5) (m' nX:Nat):Mo j (upd D i ⟨s',m',nX⟩) tag st sm:=by
 have hv:Vc j (upd D i ⟨s',m',nX⟩)=Vc j D:=by
  have:=Vc_upd D (⟨s',m',nX⟩:WD) hi;have c1:cnt (D i)=1:=by simp[cnt,h5]
  have c2:cnt (⟨s',m',nX⟩:WD)=1:=by rcases hs with rfl|rfl<;>simp[cnt]
  omega
 have ho:OpenSt j D->OpenSt j (upd D i ⟨s',m',nX⟩):=λh a ha=>by
  by_cases e:a=i
  ·subst e;rw[ak];rcases hs with rfl|rfl<;>simp
  ·rw[az D _ e];exact h a ha
 cases hm with
 |opn h1 h2 h3=>rw[<-hv];exact .opn h1 (ho h2) (λvs e=>by rw[hv];exact h3 vs e)
 |reg h1 h2 h3=>rw[<-hv];exact .reg h1 (ho h2) (by rw[hv];exact h3)
 |last L h1 h2 h3 h4=>
  by_cases e:i=L
  ·subst e;omega
  ·have:=h4 i hi e;omega
 |sema _ h2=>have:=h2 i hi;omega
 |fin h1 h2=>have:=h2 i hi;omega
theorem Mo.isLast (hm:Mo j D tag st sm) (hi:i<j) (h:(D i).stage=4\/(D i).stage=3\/(D i).stage=2):
  Pw tag/\(∀a,a<j->a≠i->(D a).stage=1)/\st=(if(D i).stage=2 then 0 else 1)/\sm=0:=by
 cases hm with
 |opn _ h2 _=>have:=h2 i hi;omega
 |reg _ h2 _=>have:=h2 i hi;omega
 |last L h1 h2 h3 h4=>
  by_cases e:i=L
  ·subst e;exact⟨h1,h4,rfl,rfl⟩
  ·have:=h4 i hi e;omega
 |sema _ h2=>have:=h2 i hi;omega
 |fin _ h2=>have:=h2 i hi;omega
end
section
variable [Payload] {P:ax} {ty:aJ} {o Wg C n:Nat} {SB:Blocks} {jd:Nat->Blocks->aK->ag->Prop} {K:aa->ag->Prop} {L0:Nat} {w0:ag} {gs:Array aa} {w w':ag} {sl:Option (Nat×Nat)} {j:Nat} {D:Nat->WX} {q:Nat->Nat} {tag:Tag} {f0 d0:Nat} {rk:Rank} {FM OM:Blocks} {a:aa} {t:aD} {st sm:Int}
omit [Payload] in
theorem q0o {x:bm} (h:Bk Wg x) {y:Touch} (hy:(ai x).touch?=some y):y.loc.isMemory=true/\ShP Wg SB y.loc/\y.kind=.atomic:=by
 rcases h with h1|h1|⟨b,wr,rfl,hb⟩
 ·rw[ofEvent_loc_mark h1]at hy;cases hy
 ·rw[ofEvent_loc_mark h1]at hy;cases hy
 ·rw[ofEvent_cell]at hy;simp only[aM,aB]at hy;subst hy;exact⟨rfl,⟨b,rfl,.inr hb⟩,rfl⟩
theorem q8o (jl:∀i F v w w1,jd i F v w->Ext F w w1->jd i F v w1) (hn:n<2147483648) (ha:gs[0]?=some a) (kQ:MS P ty Wg C n jd K tag f0 d0 rk FM OM a w) (eP:iO P ty o Wg C n SB jd j gs w t D q d0) (S:Sep Wg C SB j D FM OM w) (fK:JT n tag j) (fD:Kept Wg C L0 w0 j D OM w)
  (fG:WgAt ty Wg w st sm) (dY:Mo j (xd D) tag st sm) (hi:i<j) (hg:gs[o+i]?=some g) (fu:g.status=.running)
  (hs:WSit P ty Wg C n rV rV 0 (i+1) (D i).val (D i).stage (D i).fuel (D i).deaf g w) (pX:jd i (D i).F (D i).val w):
  ∃m₁ ops μ',runT P (crowd gs w sl) (o+i)=(.next m₁,ops)/\MLt (n+1) μ' (psi n (Vc j (xd D)) tag+jM j D,ranks n D rk,f0+2*lq j D+2*sumTo o q)/\vG P ty o Wg C n SB jd K L0 w0 μ' m₁ (t++ops):=by
 have lW:=S.lW;have lC:=S.lC;have hCW:=S.hCW;have eU:=eP.wY;have hb:=fK.bound;have Mk:=Vc_le j (xd D);have kL:=fD.lW;have kC:=fD.lC;have mW:¬FM Wg:=λh=>(S.mF Wg h).2.1 rfl;have mC:¬FM C:=λh=>(S.mF C h).2.2.1 rfl;have wW:∀i',i'<j->¬(D i').F Wg:=λi' h' h=>(S.wF i' h' Wg h).2.1 rfl;have wC:∀i',i'<j->¬(D i').F C:=λi' h' h=>(S.wF i' h' C h).2.2.1 rfl;generalize hst:(D i).stage=s at hs;generalize QC:(D i).fuel=m at hs;generalize Jd:(D i).deaf=dd at hs;have Zr:Deaf t (o+i)=dd:=by rw[eP.deafW i hi,Jd]
 have xs9:s≠9:=by rintro rfl;cases hs
 have Ac:(xd D i).stage=s:=by simp only[xd,hst];rw[if_neg xs9]
 have xfu:(xd D i).fuel=m:=QC;have xde:(xd D i).deaf=dd:=Jd
 -- A Tv OF THE Gx CY:at most the MJ block turns
 have CX:∀{g':aa} {w':ag} {es:Array bm} {s' m' nX:Nat} {st' sm':Int},aw P false g w=.go g' w' es->Aside Wg w w'->WgAt ty Wg w' st' sm'->(∀e∈es,Bk Wg e)->
   (∀jx e,es[jx]?=some e->(ai e).touch?=none\/0<ay dd (es.extract 0 jx))->WSit P ty Wg C n rV rV 0 (i+1) (D i).val s' m' nX g' w'->ay dd es=nX->s<=6->s'<=7->
   (∀tag',(tag'=tag\/(tag=.blk/\tag'=.sm))->(mayWake P g=true->g'.status=.running->tag'≠.blk)->Mo j (upd (xd D) i ⟨s',m',nX⟩) tag' st' sm')->((s'<s/\cnt ⟨s',m',nX⟩<=cnt (xd D i))\/(s'=s/\m'+1=m))->
   ∃m₁ ops μ',runT P (crowd gs w sl) (o+i)=(.next m₁,ops)/\MLt (n+1) μ' (psi n (Vc j (xd D)) tag+jM j D,ranks n D rk,f0+2*lq j D+2*sumTo o q)/\vG P ty o Wg C n SB jd K L0 w0 μ' m₁ (t++ops):=by
  intro g' w' es s' m' nX st' sm' hgo qO iM zU hd oP QF h6 h7 nN eH;obtain⟨cs,SY,SX⟩:=eP.pay;have fC:w.heap.size<=w'.heap.size:=by rw[qO.size];exact ji _
  have nM:∀{F:Blocks},¬F Wg->Ext F w w':=λhn=>⟨fC,λb hb=>qO.block b λe=>hn (e▸hb)⟩
  let x:WX:=⟨s',m',nX,(D i).rank,(D i).F,(D i).O,(D i).val⟩
  have ex:xd (upd D i x)=upd (xd D) i ⟨s',m',nX⟩:=by rw[Ka];show upd (xd D) i (⟨if s'=9 then 7 else s',m',nX⟩:WD)=_;rw[if_neg (by omega)]
  refine workerStep jl ha kQ eP S fK fD hi hg hgo (x:=x) (S.same hi rfl rfl fC) ⟨nM mW,λ_=>⟨_,_,iM⟩⟩ (λi' fI fA=>⟨nM (wW i' fI),RW.of_wg qO ⟨_,_,iM⟩ hCW⟩)
   (.lib oP (jl _ _ _ _ _ pX (nM (wW i hi)))) fC (λ_ h=>h) (λ_ h=>h) (λ_ h=>.inl h) (λ_ h=>.inl h)
   (λe he y hy=>let⟨h1,h2,h3⟩:=q0o (zU e he) hy;⟨h1,.inl ⟨h2,h3⟩⟩) (λe he=>(norel_of_Bk zU) e he) (λe he=>q8r (by omega) (zU e he))
   (by rw[Jd];exact QF) (λ_=>let⟨r,hr⟩:=eP.rel i hi (by omega);⟨r,hr.book Zr _ _ zU hd⟩) (λ_=>(cell_of_block (qO.block C hCW) i).trans (eP.has i hi (by omega))) ⟨cs,(qO.block C hCW).trans SY,SX⟩ iM
   (λtag' ht hw=>by rw[ex];exact nN tag' ht hw) (fD.stepW (by omega) (λb hb=>qO.block b (by omega)) (λ_ h=>.inl h) qO.tape qO.os qO.output (Ll qO.block ⟨_,_,_,iM⟩)) ?_
  rcases eH with⟨h1,h2⟩|⟨h1,h2⟩
  ·refine .inl ⟨by rw[hst];exact h1,?_⟩;rw[ex,ak];exact h2
  ·exact .inr (.inr ⟨by rw[hst];exact h1,rfl,by rw[QC];exact h2⟩)
 have book:∀{g':aa} {w':ag} {es:Array bm} {s' m' nX:Nat} {st' sm':Int},aw P false g w=.go g' w' es->Aside Wg w w'->WgAt ty Wg w' st' sm'->(∀e∈es,Bk Wg e)->
   (∀jx e,es[jx]?=some e->(ai e).touch?=none\/0<ay dd (es.extract 0 jx))->WSit P ty Wg C n rV rV 0 (i+1) (D i).val s' m' nX g' w'->ay dd es=nX->s<=6->s'<=7->
   Mo j (upd (xd D) i ⟨s',m',nX⟩) tag st' sm'->((s'<s/\cnt ⟨s',m',nX⟩<=cnt (xd D i))\/(s'=s/\m'+1=m))->
   ∃m₁ ops μ',runT P (crowd gs w sl) (o+i)=(.next m₁,ops)/\MLt (n+1) μ' (psi n (Vc j (xd D)) tag+jM j D,ranks n D rk,f0+2*lq j D+2*sumTo o q)/\vG P ty o Wg C n SB jd K L0 w0 μ' m₁ (t++ops):=
  λhgo qO iM zU hd oP QF h6 h7 nN eH=>CX hgo qO iM zU hd oP QF h6 h7 (λ_ ht _=>nN.retag ht) eH
 -- AN IDLE Tv Ty THE MK:nothing turns,nothing is listed
 have idle:∀{g':aa} {m':Nat},aw P false g w=.go g' w #[]->WSit P ty Wg C n rV rV 0 (i+1) (D i).val s m' dd g' w->m'+1=m->s<=6->
   ∃m₁ ops μ',runT P (crowd gs w sl) (o+i)=(.next m₁,ops)/\MLt (n+1) μ' (psi n (Vc j (xd D)) tag+jM j D,ranks n D rk,f0+2*lq j D+2*sumTo o q)/\vG P ty o Wg C n SB jd K L0 w0 μ' m₁ (t++ops):=by
  intro g' m' hgo oP hm h6;exact book hgo (.refl Wg w) fG (by simp) (by simp) oP rfl h6 (by omega) (by have:=dY.same (i:=i) m' dd;rwa [Ac]at this) (.inr ⟨rfl,hm⟩)
 cases hs with
 |r0 h=>
  rcases aA h with fB|⟨m',rfl,dS⟩
  ·obtain⟨_,gQ,g',hgo,m₂,hk⟩:=fB w (bk w)
   let x:WX:=⟨6,m₂,0,(D i).rank,(D i).F,(D i).O,(D i).val⟩
   have ex:xd (upd D i x)=upd (xd D) i ⟨6,m₂,0⟩:=by rw[Ka];rfl
   refine workerStep jl ha kQ eP S fK fD hi hg hgo (x:=x) (S.same hi rfl rfl (ji _)) (jw w) (λi' fI fA=>⟨Ext.refl ..,bk w⟩)
    (.lib (.k1 hk) pX) (ji _) (λ_ h=>h) (λ_ h=>h) (λ_ h=>.inl h) (λ_ h=>.inl h)
    (λe he y hy=>by simp at he;subst he;cases hy) (λe he=>by simp at he;subst he;simp[mk]) (λe he y hy=>by simp at he;subst he;cases hy)
    (by rw[Jd];rfl) (λ_=>⟨t.size,RelBy.new Zr _ _⟩) (λ_=>by simpa using gQ) eP.pay fG
    (λtag' ht hw=>by rw[ex];exact(dY.counted hi (by omega) (.inl rfl) _ _).retag ht) (fD.stepW (by omega) (λ_ _=>rfl) (λ_ h=>.inl h) rfl rfl rfl id) (.inl ⟨by rw[hst];exact(by decide:6<7),?_⟩)
   rw[ex,ak];simp[cnt,Ac]
  ·obtain⟨g',w',es,hgo,⟨tK,iG⟩,fO⟩:=dS w (bk w);simp only[Nat.add_sub_cancel]at tK;have fC:w.heap.size<=w'.heap.size:=by rw[tK.size];exact ji _
   have nM:∀{F:Blocks},¬F C->Ext F w w':=λhn=>⟨fC,λb hb=>tK.block b λe=>hn (e▸hb)⟩
   have iM:WgAt ty Wg w' st sm:=fG.of_block (tK.block Wg (Ne.symm hCW));have TK:∀e∈es,∀y,(ai e).touch?=some y->∃b,y.loc=.cell b/\b.block=Wg/\y.kind=.atomic:=λe he y hy=>by
    rcases((iG e he).1 (0:Nat) "").2 y hy with⟨⟨b,h1,h2⟩,h3,h4⟩|h1|⟨h1,_⟩
    ·refine⟨b,h1,h2,?_⟩;cases hk:y.kind with
     |atomic=>rfl
     |plain=>exact absurd hk h3
     |said=>exact absurd hk h4
    ·exact h1.elim
    ·exact h1.elim
   let x:WX:=⟨7,m',0,(D i).rank,(D i).F,(D i).O,(D i).val⟩
   have ex:xd (upd D i x)=upd (xd D) i ⟨7,m',0⟩:=by rw[Ka];rfl
   refine workerStep jl ha kQ eP S fK fD hi hg hgo (x:=x) (S.same hi rfl rfl fC) ⟨nM mC,λ_=>⟨_,_,iM⟩⟩ (λi' fI fA=>⟨nM (wC i' fI),RW.of_cell tK fA hCW⟩)
    (.lib (.r0 fO) (jl _ _ _ _ _ pX (nM (wC i hi)))) fC (λ_ h=>h) (λ_ h=>h) (λ_ h=>.inl h) (λ_ h=>.inl h)
    (λe he y hy=>?_) (λe he=>(iG e he).2.2.2) (λe he y hy=>?_)
    (by rw[Jd];exact deafBehind_idle (λe he=>⟨(iG e he).2.1,(iG e he).2.2.1⟩) 0) (λh=>absurd (show 7<=6 from h) (by decide)) (λh=>absurd (show 7<=6 from h) (by decide)) (tK.pay eP.pay) iM
    (λtag' ht hw=>by rw[ex];exact Mo.retag (by have:=dY.same (i:=i) m' 0;rwa [Ac]at this) ht) (fD.stepW (by omega) (λb hb=>tK.block b (by omega)) (λ_ h=>.inl h) tK.tape tK.os tK.output (Ll tK.block (let⟨_,h,_⟩:=tK.pay eP.pay;⟨_,_,_,h⟩)))
    (.inr (.inr ⟨hst.symm,rfl,QC.symm⟩))
   ·obtain⟨b,h1,h2,h3⟩:=TK e he y hy;rw[h1];exact⟨rfl,.inl ⟨⟨b,rfl,.inr h2⟩,h3⟩⟩
   ·obtain⟨b,h1,h2,h3⟩:=TK e he y hy;rw[h1];show b.block<_;omega
 |k1 h=>
  rcases aA h with fB|⟨m',rfl,dS⟩
  ·obtain⟨_,g',hgo,m₂,hk⟩:=fB w (bk w);exact book hgo (.refl Wg w) fG (by intro e he;simp at he;subst he;exact .inl rfl) (by intro jx e he;exact .inl (by have:=bi he;simp at this;subst this;rfl)) (.d1 hk) rfl (by omega) (by omega)
    (dY.counted hi (by omega) (.inr rfl) _ _) (.inl ⟨by omega,by simp[cnt,Ac]⟩)
  ·obtain⟨g',w',es,hgo,⟨rfl,rfl⟩,fO⟩:=dS w (bk w);exact idle hgo (.k1 fO) rfl (by omega)
 |d1 h=>
  rcases aA h with fB|⟨m',rfl,dS⟩
  ·obtain⟨_,gm⟩:=fB w (bk w);have kI:cnt (xd D i)=1:=by simp[cnt,Ac]
   have hV1:1<=Vc j (xd D):=by have:=le_sumTo (f:=λx=>cnt (xd D x)) hi;simp only[Vc];omega
   have bk2:∀e∈#[rd (stA Wg),wr (stA Wg)],Bk Wg e:=by intro e he;simp at he;rcases he with rfl|rfl<;>exact bk_cell _ _ rfl
   have Rb:∀jx e,(#[rd (stA Wg),wr (stA Wg)]:Array bm)[jx]?=some e->(ai e).touch?=none\/0<ay 1 ((#[rd (stA Wg),wr (stA Wg)]:Array bm).extract 0 jx):=by
    intro jx e he;match jx,he with
    |0,_=>exact .inr (by simp[ay])
    |1,_=>exact .inr (by simp[ay,rd])
    |jx+2,he=>simp at he
   have Zc:∀q,cnt (⟨1,q,1⟩:WD)=0:=λ_=>rfl;have Ye:∀q,OpenSt j (xd D)->OpenSt j (upd (xd D) i ⟨1,q,1⟩):=λq h a ha=>by
    by_cases e:a=i
    ·subst e;rw[ak];simp
    ·rw[az (xd D) _ e];exact h a ha
   cases dY with
   |opn h1 h2 h3=>
    obtain⟨v,hv⟩:∃v,Vc j (xd D)+mX tag=v+1:=⟨Vc j (xd D)+mX tag-1,by omega⟩
    rw[hv]at fG;have mZ:WgAt ty Wg w (((v:Nat)+1)*KK+((0:Nat):Int)) 0:=by simpa using fG
    obtain⟨g',hgo,_,hq⟩:=gm v 0 (by omega) (by omega) mZ;obtain⟨q,hq⟩:=hq (by omega);have Ej:Vc j (upd (xd D) i ⟨1,q,1⟩)+mX tag=v:=by have:=Vc_upd (xd D) (⟨1,q,1⟩:WD) hi;have:=Zc q;omega
    refine book hgo (aI w (stA Wg) _) (fG.setSt _) bk2 Rb (.quit hq) rfl (by omega) (by omega) ?_ (.inl ⟨by omega,by simp[cnt]⟩);have e:((v:Nat):Int)*KK+((0:Nat):Int)=((Vc j (upd (xd D) i ⟨1,q,1⟩)+mX tag:Nat):Int)*KK:=by rw[Ej];simp
    rw[e];exact .opn h1 (Ye q h2) (λvs ev=>by have:=h3 vs ev;omega)
   |reg h1 h2 h3=>
    obtain⟨v,hv⟩:∃v,Vc j (xd D)=v+1:=⟨Vc j (xd D)-1,by omega⟩
    rw[hv]at fG;have hp:mX tag=0:=by cases tag<;>first|rfl|exact h1.elim
    have mZ:WgAt ty Wg w (((v:Nat)+1)*KK+((1:Nat):Int)) 0:=by simpa using fG
    obtain⟨g',hgo,hl,hq⟩:=gm v 1 (by omega) (by omega) mZ;by_cases xL:v=0
    ·subst xL;obtain⟨m₂,hk⟩:=hl ⟨rfl,rfl⟩;refine book hgo (aI w (stA Wg) _) (fG.setSt _) bk2 Rb (.d2 hk) rfl (by omega) (by omega) ?_ (.inl ⟨by omega,by simp[cnt]⟩);have jI:∀a,a<j->a≠i->(xd D a).stage=1:=λa ha e=>by
      have c0:=others_uncounted hi hv kI a ha e;have:=h2 a ha;simp only[cnt]at c0;split at c0<;>omega
     have:=Mo.last (j:=j) (D:=upd (xd D) i ⟨4,m₂,1⟩) (tag:=tag) i h1 hi (by rw[ak];simp) (λa ha e=>by rw[az (xd D) _ e];exact jI a ha e);rw[ak]at this;simpa using this
    ·obtain⟨q,hq⟩:=hq (by omega);have Ej:Vc j (upd (xd D) i ⟨1,q,1⟩)=v:=by have:=Vc_upd (xd D) (⟨1,q,1⟩:WD) hi;have:=Zc q;omega
     refine book hgo (aI w (stA Wg) _) (fG.setSt _) bk2 Rb (.quit hq) rfl (by omega) (by omega) ?_ (.inl ⟨by omega,by simp[cnt]⟩);have e:((v:Nat):Int)*KK+((1:Nat):Int)=((Vc j (upd (xd D) i ⟨1,q,1⟩):Nat):Int)*KK+1:=by rw[Ej];simp
     rw[e];exact .reg h1 (Ye q h2) (by omega)
   |last L _ h2 h3 h4=>
    by_cases e:i=L
    ·subst e;omega
    ·have:=h4 i hi e;omega
   |sema _ h2=>have:=h2 i hi;omega
   |fin _ h2=>have:=h2 i hi;omega
  ·obtain⟨g',w',es,hgo,⟨rfl,rfl⟩,fO⟩:=dS w (bk w);exact idle hgo (.d1 fO) rfl (by omega)
 |d2 h=>
  rcases aA h with fB|⟨m',rfl,dS⟩
  ·obtain⟨_,hx⟩:=fB w (bk w);obtain⟨Ji,jI,rfl,rfl⟩:=dY.isLast hi (by omega);simp only[Ac]at fG;obtain⟨g',hgo,m₂,hk⟩:=hx (by simpa using fG);refine book hgo (.refl Wg w) fG (by intro e he;simp at he;subst he;exact bk_cell _ _ rfl) (by intro jx e he;match jx,he with|0,_=>exact .inr (by simp[ay])|jx+1,he=>simp at he) (.d3 hk) rfl (by omega) (by omega) ?_ (.inl ⟨by omega,by simp[cnt]⟩);have:=Mo.last (j:=j) (D:=upd (xd D) i ⟨3,m₂,1⟩) (tag:=tag) i Ji hi (by rw[ak];simp) (λa ha e=>by rw[az (xd D) _ e];exact jI a ha e);rw[ak]at this;simpa using this
  ·obtain⟨g',w',es,hgo,⟨rfl,rfl⟩,fO⟩:=dS w (bk w);exact idle hgo (.d2 fO) rfl (by omega)
 |d3 h=>
  rcases aA h with fB|⟨m',rfl,dS⟩
  ·obtain⟨_,hx⟩:=fB w (bk w);obtain⟨Ji,jI,rfl,rfl⟩:=dY.isLast hi (by omega);simp only[Ac]at fG;obtain⟨g',hgo,m₂,hk⟩:=hx (by simpa using fG);refine book hgo (aI w (stA Wg) _) (fG.setSt 0) (by intro e he;simp at he;subst he;exact bk_cell _ _ rfl) (by intro jx e he;match jx,he with|0,_=>exact .inr (by simp[ay])|jx+1,he=>simp at he) (.d4 hk) rfl (by omega) (by omega) ?_ (.inl ⟨by omega,by simp[cnt]⟩);have:=Mo.last (j:=j) (D:=upd (xd D) i ⟨2,m₂,1⟩) (tag:=tag) i Ji hi (by rw[ak];simp) (λa ha e=>by rw[az (xd D) _ e];exact jI a ha e);rw[ak]at this;simpa using this
  ·obtain⟨g',w',es,hgo,⟨rfl,rfl⟩,fO⟩:=dS w (bk w);exact idle hgo (.d3 fO) rfl (by omega)
 |d4 h=>
  rcases aA h with fB|⟨m',rfl,dS⟩
  ·obtain⟨_,hmw,hx⟩:=fB w (bk w);obtain⟨Ji,jI,rfl,rfl⟩:=dY.isLast hi (by omega);simp only[Ac]at fG;obtain⟨g',hgo,q,hq⟩:=hx (by simpa using fG);have vC:g'.status=.running:=by
    cases q with
    |zero=>exact absurd hq.2 (by decide)
    |succ q=>exact hq.elim (λx=>absurd x.2 (by decide)) (λx=>x.1)
   refine CX hgo (aI w (smA Wg) _) (fG.setSm 1) (es:=semEvents (smA Wg)) bk_sem ?_ (.quit hq) (by simp[ay,semEvents]) (by omega) (by omega) ?_ (.inl ⟨by omega,by simp[cnt]⟩)
   ·intro jx e he;match jx,he with
    |0,he=>simp[semEvents]at he;subst he;exact .inl rfl
    |1,_=>exact .inr (by simp[ay,semEvents])
    |2,_=>exact .inr (by simp[ay,semEvents])
    |3,he=>simp[semEvents]at he;subst he;exact .inl rfl
    |jx+4,he=>simp[semEvents]at he
   ·intro tag' ht hw;have pM:=hw hmw vC;have e3:tag'=.sm\/tag'=.ws:=by
     rcases ht with rfl|⟨_,rfl⟩
     ·cases tag'<;>first|exact .inl rfl|exact .inr rfl|exact Ji.elim|exact absurd rfl pM
     ·exact .inl rfl
    have Em:AllQuit j (upd (xd D) i ⟨1,q,1⟩):=λa ha=>by
     by_cases e:a=i
     ·subst e;rw[ak]
     ·rw[az (xd D) _ e];exact jI a ha e
    simp only[if_true];exact .sema e3.symm Em
  ·obtain⟨g',w',es,hgo,⟨rfl,rfl⟩,fO⟩:=dS w (bk w);exact idle hgo (.d4 fO) rfl (by omega)
 |quit h=>
  cases m with
  |zero=>rw[h.1]at fu;cases fu
  |succ q=>
   rcases h with⟨hf,_⟩|⟨_,g',es,CV,dS,hq⟩
   ·rw[hf]at fu;cases fu
   ·have zU:∀e∈es,Bk Wg e:=λe he=>bk_of_mute (CV e he);have fP:∀jx e,es[jx]?=some e->(ai e).touch?=none\/0<ay dd (es.extract 0 jx):=λjx e he=>.inl (touch_mute (CV e (bi he)));exact book (dS w) (.refl Wg w) fG zU fP (.quit hq) rfl (by omega) (by omega) (by have:=dY.same (i:=i) q (ay dd es);rwa [Ac]at this) (.inr ⟨rfl,rfl⟩)
end
end
section
open Go Go.Conc Go.ConcN Sim
open Go.ConcN.Gen (ev0_said_read ev0_said_write)
open Go.ConcR (KK WgAt stA smA rd wr mk Payload DC0 g_of_ofEvents Bk bk_of_mute ofEvent_loc_mark ofEvent_cell)
theorem MLt.lt1 {N:Nat} {a b c:Mea} (h:MLt N a b) (k:b.1<c.1):MLt N a c:=by
 obtain⟨a1,a2⟩:=a;obtain⟨b1,b2⟩:=b;obtain⟨c1,c2⟩:=c;simp only at k;rcases Prod.lex_def.1 h with h|⟨h,_⟩
 ·simp only at h;exact bh _ _ (by omega)
 ·simp only at h;exact bh _ _ (by omega)
section
variable [Payload] (P:ax) (ty:aJ) (o Wg C n:Nat) (SB:Blocks) (jd:Nat->Blocks->aK->ag->Prop) (K:aa->ag->Prop) (L0:Nat) (w0:ag)
def Out (gs:Array aa) (w:ag) (sl:Option (Nat×Nat)) (t:aD) (k:Nat) (μ:Mea):Prop:=
 ∃m₁ ops μ',runT P (crowd gs w sl) k=(.next m₁,ops)/\MLt (n+1) μ' μ/\vG P ty o Wg C n SB jd K L0 w0 μ' m₁ (t++ops)
end
section
variable {j:Nat} {D:Nat->WD} {tag tag':Tag} {st sm:Int}
theorem Mo.reopen (hm:Mo j D tag st sm) (h:KE tag) (h':KE tag') (hp:mX tag'=mX tag) (hw:∀vs,tag'=.cs vs->Vc j D<=vs/\1<=vs):Mo j D tag' st sm:=by
 cases hm with
 |opn _ h2 _=>rw[<-hp];exact .opn h' h2 hw
 |reg h1 _ _=>cases tag<;>first|exact h.elim|exact h1.elim
 |last L h1 _ _ _=>cases tag<;>first|exact h.elim|exact h1.elim
 |sema h1 _=>rcases h1 with rfl|rfl<;>exact h.elim
 |fin h1 _=>cases tag<;>first|exact h.elim|exact h1.elim
theorem Mo.open_inv (hm:Mo j D tag st sm) (h:KE tag):OpenSt j D/\st=((Vc j D+mX tag:Nat):Int)*KK/\sm=0/\∀vs,tag=.cs vs->Vc j D<=vs/\1<=vs:=by
 cases hm with
 |opn _ h2 h3=>exact⟨h2,rfl,rfl,h3⟩
 |reg h1 _ _=>cases tag<;>first|exact h.elim|exact h1.elim
 |last L h1 _ _ _=>cases tag<;>first|exact h.elim|exact h1.elim
 |sema h1 _=>rcases h1 with rfl|rfl<;>exact h.elim
 |fin h1 _=>cases tag<;>first|exact h.elim|exact h1.elim
theorem Mo.fin_inv (hm:Mo j D tag st sm) (h:XH tag):AllQuit j D/\st=0/\sm=0:=by
 cases hm with
 |opn h1 _ _=>cases tag<;>first|exact h.elim|exact h1.elim
 |reg h1 _ _=>cases tag<;>first|exact h.elim|exact h1.elim
 |last L h1 _ _ _=>cases tag<;>first|exact h.elim|exact h1.elim
 |sema h1 _=>rcases h1 with rfl|rfl<;>exact h.elim
 |fin _ h2=>exact⟨h2,rfl,rfl⟩
end
section
variable [Payload] {P:ax} {ty:aJ} {o Wg C n:Nat} {SB:Blocks} {jd:Nat->Blocks->aK->ag->Prop} {K:aa->ag->Prop} {L0:Nat} {w0:ag} {gs:Array aa} {w w':ag} {sl:Option (Nat×Nat)} {j:Nat} {D:Nat->WX} {q:Nat->Nat} {tag tag':Tag} {f0 f' d0:Nat} {rk C9:Rank} {FM OM Ab Aa:Blocks} {a a':aa} {t:aD} {st sm st' sm':Int} {es:Array bm}
omit [Payload] in
theorem Sep.none (S:Sep Wg C SB j D FM OM w):Sep Wg C SB j D FM (λ_=>False) w:=⟨S.wF,S.wO,S.apart,S.mF,λ_ h=>h.elim,S.lW,S.lC,S.lS,S.hCW,S.sW,S.sC⟩
omit [Payload] in
theorem Sep.size (S:Sep Wg C SB j D FM OM w) (h:w.heap.size<=w'.heap.size):Sep Wg C SB j D FM OM w':=
 ⟨λi hi b hb=>let x:=S.wF i hi b hb;⟨xll x.1 h,x.2⟩,S.wO,S.apart,λb hb=>let x:=S.mF b hb;⟨xll x.1 h,x.2⟩,S.mO,xll S.lW h,xll S.lC h,λb hb=>xll (S.lS b hb) h,S.hCW,S.sW,S.sC⟩
omit [Payload] in
theorem Kept.none (h:Kept Wg C L0 w0 j D OM w):Kept Wg C L0 w0 j D (λ_=>False) w:=⟨h.keep,h.lW,h.lC,h.lO,λ_ h=>h.elim,h.tape,h.os,h.output,h.nb⟩
omit [Payload] in
theorem Kept.wg (h:Kept Wg C L0 w0 j D OM w) (hA:Aside Wg w w') (hg:WgAt ty Wg w' st' sm'):Kept Wg C L0 w0 j D OM w':=
 ⟨λb hb=>(hA.block b (by have:=h.lW;omega)).trans (h.keep b hb),h.lW,h.lC,h.lO,h.lM,hA.tape.trans h.tape,hA.os.trans h.os,hA.output.trans h.output,λx=>Ll hA.block ⟨_,_,_,hg⟩ (h.nb x)⟩
omit [Payload] in
theorem Xe {pos:String} (h:∀e∈es,∀y,(ai e).touch?=some y->∃b,y.loc=.cell b/\b.block=Wg/\y.kind≠.plain):∀op∈au 0 fn pos es,Ok0 (ShP Wg SB) (su o C j D) (RdD o j D) (o-1+j) op:=by
 intro op eU;obtain⟨e,he,rfl⟩:=aj eU;refine⟨rfl,λy hy=>?_⟩;obtain⟨b,h1,h2,h3⟩:=h e he y hy;exact .inl ⟨h1▸⟨b,rfl,.inr h2⟩,h3⟩
omit [Payload] in
theorem wM (h:∀e∈es,Bk Wg e):∀e∈es,∀y,(ai e).touch?=some y->∃b,y.loc=.cell b/\b.block=Wg/\y.kind≠.plain:=by
 intro e he y hy;rcases h e he with h1|h1|⟨b,wr,rfl,hb⟩
 ·rw[ofEvent_loc_mark h1]at hy;cases hy
 ·rw[ofEvent_loc_mark h1]at hy;cases hy
 ·rw[ofEvent_cell]at hy;simp only[aM,aB]at hy;subst hy;exact⟨b,rfl,hb,by simp⟩
theorem qG (jl:∀i F v w w1,jd i F v w->Ext F w w1->jd i F v w1) (ha:gs[0]?=some a) (eP:iO P ty o Wg C n SB jd j gs w t D q d0) (S:Sep Wg C SB j D FM OM w) (fD:Kept Wg C L0 w0 j D OM w)
  (hgo:aw P true a w=.go a' w' es) (qO:Aside Wg w w') (iM:WgAt ty Wg w' st' sm') (IK:∀e∈es,∀y,(ai e).touch?=some y->∃b,y.loc=.cell b/\b.block=Wg/\y.kind≠.plain) (Bg:∀e∈es,e.loc≠.mark (.release (stA Wg)))
  (xB:MS P ty Wg C n jd K tag' f' (ay d0 es) .leaf FM (λ_=>False) a' w') (nN:Mo j (xd D) tag' st' sm') (fK:JT n tag' j)
  (eH:psi n (Vc j (xd D)) tag'<psi n (Vc j (xd D)) tag\/(psi n (Vc j (xd D)) tag'=psi n (Vc j (xd D)) tag/\rk=.leaf/\f'<f0)):
  Out P ty o Wg C n SB jd K L0 w0 gs w sl t 0 (psi n (Vc j (xd D)) tag+jM j D,ranks n D rk,f0+2*lq j D+2*sumTo o q):=by
 obtain⟨cs,kI,kX⟩:=eP.pay;have fC:w.heap.size<=w'.heap.size:=by rw[qO.size];exact ji _
 have lW:=S.lW;refine callerStep jl ha eP S hgo xB (S.none.size fC) (λi hi=>⟨⟨fC,λb hb=>qO.block b (S.wF i hi b hb).2.1⟩,RW.of_wg qO ⟨_,_,iM⟩ S.hCW⟩) fC (Xe IK)
  (λe he y hy=>by obtain⟨b,h1,_⟩:=IK e he y hy;rw[h1];rfl) Bg (λe he y hy=>by obtain⟨b,h1,h2,_⟩:=IK e he y hy;rw[h1];show b.block<_;omega) ⟨cs,(qO.block C S.hCW).trans kI,kX⟩ iM nN fK (fD.none.wg qO iM) ?_
 rcases eH with h|⟨h1,h2,h3⟩
 ·exact .inl h
 ·exact .inr (.inr ⟨h1,h2.symm,h3⟩)
theorem vI (jl:∀i F v w w1,jd i F v w->Ext F w w1->jd i F v w1) (ha:gs[0]?=some a) (eP:iO P ty o Wg C n SB jd j gs w t D q d0) (S:Sep Wg C SB j D FM OM w) (fD:Kept Wg C L0 w0 j D OM w)
  (fG:WgAt ty Wg w st sm) (dY:Mo j (xd D) tag st sm) (fK:JT n tag j)
  (hgo:aw P true a w=.go a' w' es) (hD:DC0 w w' es) (xB:MS P ty Wg C n jd K tag f' d0 .leaf FM (λ_=>False) a' w') (hf:f'<f0):
  Out P ty o Wg C n SB jd K L0 w0 gs w sl t 0 (psi n (Vc j (xd D)) tag+jM j D,ranks n D .leaf,f0+2*lq j D+2*sumTo o q):=by
 obtain⟨rfl,rfl⟩:=hD;exact qG jl ha eP S fD hgo (.refl Wg _) fG (by simp) (by simp) xB dY fK (.inr ⟨rfl,rfl,hf⟩)
omit [Payload] in
theorem wI (h:∀e∈es,Bk Wg e):∀e∈es,e.loc≠.mark (.release (stA Wg)):=λe he=>(norel_of_Bk h) e he
omit [Payload] in
theorem WI {m:Mark} (hm:m=.read (smA Wg)\/m=.write (smA Wg)):∀e∈#[mk m],∀y,(ai e).touch?=some y->∃b,y.loc=.cell b/\b.block=Wg/\y.kind≠.plain:=by
 intro e he y hy;simp only[aY,aZ]at he;subst he;rcases hm with rfl|rfl<;>
  (simp only[mk,ai,aM,aB]at hy
   subst hy
   exact⟨smA Wg,rfl,rfl,by simp⟩)
omit [Payload] in
theorem Ps {m:Mark} (hm:m≠.release (stA Wg)):∀e∈#[mk m],e.loc≠.mark (.release (stA Wg)):=by
 intro e he;simp only[aY,aZ]at he;subst he;intro h;simp only[mk,Loc.mark.injEq]at h;exact hm h
section
variable (jl:∀i F v w w1,jd i F v w->Ext F w w1->jd i F v w1) (hn:n<2147483648) (ha:gs[0]?=some a) (fD:Kept Wg C L0 w0 j D OM w) (S:Sep Wg C SB j D FM OM w) (fG:WgAt ty Wg w st sm)
include jl hn ha fD S fG
omit hn in
theorem Uh (eP:iO P ty o Wg C n SB jd j gs w t D q 0) (dY:Mo j (xd D) (.kdS r) st sm) (fK:JT n (.kdS r) j) (hr:r<n)
  (h:Goes P true (RM ty Wg FM) DC0 (jQ P .disable (MG P ty Wg FM (xE P ty Wg FM (MG P ty Wg FM (AtGoM P ty Wg C n jd (n-(r+1)) FM λg' w=>WG P true (Scr P ty Wg C n jd K r) FM (λ_=>False) g' w))))) f0 a w):
  Out P ty o Wg C n SB jd K L0 w0 gs w sl t 0 (psi n (Vc j (xd D)) (.kdS r)+jM j D,ranks n D .leaf,f0+2*lq j D+2*sumTo o q):=by
 rcases aA h with fB|⟨m',rfl,dS⟩
 ·obtain⟨_,a',hgo,m₂,hk⟩:=fB w (jw w);exact qG (tag':=.ad r) jl ha eP S fD hgo (.refl Wg _) fG (wM bk_dis) (wI bk_dis) (.ad hr hk) (dY.reopen trivial trivial rfl (by simp)) fK (.inl (by simp only[psi];omega))
 ·obtain⟨a',w',es,hgo,hD,fO⟩:=dS w (jw w);exact vI jl ha eP S fD fG dY fK hgo hD (.kdS hr fO) (by omega)
theorem jb2 (eP:iO P ty o Wg C n SB jd j gs w t D q 1) (dY:Mo j (xd D) (.ad r) st sm) (fK:JT n (.ad r) j) (hr:r<n)
  (h:Goes P true (RM ty Wg FM) DC0 (xE P ty Wg FM (MG P ty Wg FM (AtGoM P ty Wg C n jd (n-(r+1)) FM λg' w=>WG P true (Scr P ty Wg C n jd K r) FM (λ_=>False) g' w))) f0 a w):
  Out P ty o Wg C n SB jd K L0 w0 gs w sl t 0 (psi n (Vc j (xd D)) (.ad r)+jM j D,ranks n D .leaf,f0+2*lq j D+2*sumTo o q):=by
 have Mk:=Vc_le j (xd D);have I6:=fK.le;rcases aA h with fB|⟨m',rfl,dS⟩
 ·obtain⟨_,gm⟩:=fB w (jw w);obtain⟨ho,rfl,rfl,_⟩:=dY.open_inv trivial;have hj1:j+r+1=n:=fK;obtain⟨a',hgo,hk⟩:=gm (Vc j (xd D)) (by omega) (by simpa[mX]using fG);rcases hk with⟨_,m₂,hk⟩|⟨_,m₂,hk⟩
  ·refine qG (tag':=.rs r) jl ha eP S fD hgo (aI w (stA Wg) _) (fG.setSt _) (wM bk_rw) (wI bk_rw) (.rs hr hk) ?_ fK (.inl (by simp only[psi];omega));have e:(((Vc j (xd D):Nat):Int)+1)*KK=((Vc j (xd D)+mX (.rs r):Nat):Int)*KK:=by simp[mX]
   rw[e];exact .opn trivial ho (by simp)
  ·refine qG (tag':=.en r) jl ha eP S fD hgo (aI w (stA Wg) _) (fG.setSt _) (wM bk_rw) (wI bk_rw) (.en hr hk) ?_ fK (.inl (by simp only[psi];omega));have e:(((Vc j (xd D):Nat):Int)+1)*KK=((Vc j (xd D)+mX (.en r):Nat):Int)*KK:=by simp[mX]
   rw[e];exact .opn trivial ho (by simp)
 ·obtain⟨a',w',es,hgo,hD,fO⟩:=dS w (jw w);exact vI jl ha eP S fD fG dY fK hgo hD (.ad hr fO) (by omega)
omit hn in
theorem jdz (eP:iO P ty o Wg C n SB jd j gs w t D q 1) (dY:Mo j (xd D) (.rs r) st sm) (fK:JT n (.rs r) j) (hr:r<n)
  (h:Goes P true (RM ty Wg FM) DC0 (jQ P (.read (smA Wg)) (MG P ty Wg FM (jQ P .enable (MG P ty Wg FM (AtGoM P ty Wg C n jd (n-(r+1)) FM λg' w=>WG P true (Scr P ty Wg C n jd K r) FM (λ_=>False) g' w))))) f0 a w):
  Out P ty o Wg C n SB jd K L0 w0 gs w sl t 0 (psi n (Vc j (xd D)) (.rs r)+jM j D,ranks n D .leaf,f0+2*lq j D+2*sumTo o q):=by
 rcases aA h with fB|⟨m',rfl,dS⟩
 ·obtain⟨_,a',hgo,m₂,hk⟩:=fB w (jw w);exact qG (tag':=.en r) jl ha eP S fD hgo (.refl Wg _) fG (WI (.inl rfl)) (Ps (by simp)) (.en hr hk) (dY.reopen trivial trivial rfl (by simp)) fK (.inl (by simp only[psi];omega))
 ·obtain⟨a',w',es,hgo,hD,fO⟩:=dS w (jw w);exact vI jl ha eP S fD fG dY fK hgo hD (.rs hr fO) (by omega)
omit hn in
theorem jcj (eP:iO P ty o Wg C n SB jd j gs w t D q 1) (dY:Mo j (xd D) (.en r) st sm) (fK:JT n (.en r) j) (hr:r<n)
  (h:Goes P true (RM ty Wg FM) DC0 (jQ P .enable (MG P ty Wg FM (AtGoM P ty Wg C n jd (n-(r+1)) FM λg' w=>WG P true (Scr P ty Wg C n jd K r) FM (λ_=>False) g' w))) f0 a w):
  Out P ty o Wg C n SB jd K L0 w0 gs w sl t 0 (psi n (Vc j (xd D)) (.en r)+jM j D,ranks n D .leaf,f0+2*lq j D+2*sumTo o q):=by
 rcases aA h with fB|⟨m',rfl,dS⟩
 ·obtain⟨_,a',hgo,m₂,hk⟩:=fB w (jw w);exact qG (tag':=.gos r) jl ha eP S fD hgo (.refl Wg _) fG (wM bk_en) (wI bk_en) (.gos hr hk) (dY.reopen trivial trivial rfl (by simp)) fK (.inl (by simp only[psi];omega))
 ·obtain⟨a',w',es,hgo,hD,fO⟩:=dS w (jw w);exact vI jl ha eP S fD fG dY fK hgo hD (.en hr fO) (by omega)
omit hn in
theorem XF (vU:∀g w,A g w->g.status=.running) (uR:∀g w,A g w->MG P ty Wg FM (rU P ty Wg FM A K) g w) (eP:iO P ty o Wg C n SB jd j gs w t D q 0) (dY:Mo j (xd D) .kd st sm) (fK:JT n .kd j)
  (h:Goes P true (RM ty Wg FM) DC0 (jQ P .disable (MG P ty Wg FM A)) f0 a w):
  Out P ty o Wg C n SB jd K L0 w0 gs w sl t 0 (psi n (Vc j (xd D)) .kd+jM j D,ranks n D .leaf,f0+2*lq j D+2*sumTo o q):=by
 have Mk:=Vc_le j (xd D);have I6:=fK.le;rcases aA h with fB|⟨m',rfl,dS⟩
 ·obtain⟨_,a',hgo,m₂,hk⟩:=fB w (jw w);exact qG (tag':=.anch) jl ha eP S fD hgo (.refl Wg _) fG (wM bk_dis) (wI bk_dis) (.anch vU uR hk) (dY.reopen trivial trivial rfl (by simp)) fK (.inl (by simp only[psi];omega))
 ·obtain⟨a',w',es,hgo,hD,fO⟩:=dS w (jw w);exact vI jl ha eP S fD fG dY fK hgo hD (.kd vU uR fO) (by omega)
theorem XD (vU:∀g w,A g w->g.status=.running) (uR:∀g w,A g w->MG P ty Wg FM (rU P ty Wg FM A K) g w) (eP:iO P ty o Wg C n SB jd j gs w t D q 1) (dY:Mo j (xd D) .ld st sm) (fK:JT n .ld j)
  (h:Goes P true (RM ty Wg FM) DC0 (rU P ty Wg FM A K) f0 a w):
  Out P ty o Wg C n SB jd K L0 w0 gs w sl t 0 (psi n (Vc j (xd D)) .ld+jM j D,ranks n D .leaf,f0+2*lq j D+2*sumTo o q):=by
 have Mk:=Vc_le j (xd D);have I6:=fK.le;rcases aA h with fB|⟨m',rfl,dS⟩
 ·obtain⟨_,gm⟩:=fB w (jw w);obtain⟨ho,rfl,rfl,_⟩:=dY.open_inv trivial;obtain⟨a',hgo,h0,fA⟩:=gm (Vc j (xd D)) (by omega) (by simpa[mX]using fG);by_cases hv:Vc j (xd D)=0
  ·obtain⟨m₂,hk⟩:=h0 hv;refine qG (tag':=.en2) jl ha eP S fD hgo (.refl Wg _) fG (wM bk_rd) (wI bk_rd) (.en2 hk) ?_ fK (.inl (by simp only[psi];omega));have e:((Vc j (xd D)+mX .ld:Nat):Int)*KK=0:=by rw[hv];simp[mX]
   rw[e];exact .fin trivial (allQuit_of ho hv)
  ·obtain⟨m₂,hk⟩:=fA hv;exact qG (tag':=.cs (Vc j (xd D))) jl ha eP S fD hgo (.refl Wg _) fG (wM bk_rd) (wI bk_rd) (.cs vU uR hk) (dY.reopen trivial trivial rfl (λvs e=>by cases e;omega)) fK (.inl (by simp only[psi];omega))
 ·obtain⟨a',w',es,hgo,hD,fO⟩:=dS w (jw w);exact vI jl ha eP S fD fG dY fK hgo hD (.ld vU uR fO) (by omega)
theorem q10 (vU:∀g w,A g w->g.status=.running) (uR:∀g w,A g w->MG P ty Wg FM (rU P ty Wg FM A K) g w) (eP:iO P ty o Wg C n SB jd j gs w t D q 1) (dY:Mo j (xd D) .anch st sm) (fK:JT n .anch j)
  (h:Goes P true (RM ty Wg FM) DC0 A f0 a w):
  Out P ty o Wg C n SB jd K L0 w0 gs w sl t 0 (psi n (Vc j (xd D)) .anch+jM j D,ranks n D .leaf,f0+2*lq j D+2*sumTo o q):=by
 rcases aA h with fB|⟨m',rfl,dS⟩
 ·obtain⟨m₂,hk⟩:=uR a w (fB w (jw w));obtain⟨m₁,ops,μ',h1,h2,h3⟩:=XD (sl:=sl) jl hn ha fD S fG vU uR eP (dY.reopen trivial trivial rfl (by simp)) fK hk;exact⟨m₁,ops,μ',h1,h2.lt1 (by simp only[psi];omega),h3⟩
 ·obtain⟨a',w',es,hgo,hD,fO⟩:=dS w (jw w);exact vI jl ha eP S fD fG dY fK hgo hD (.anch vU uR fO) (by omega)
theorem jcb {vs:Nat} (vU:∀g w,A g w->g.status=.running) (uR:∀g w,A g w->MG P ty Wg FM (rU P ty Wg FM A K) g w) (eP:iO P ty o Wg C n SB jd j gs w t D q 1) (dY:Mo j (xd D) (.cs vs) st sm) (fK:JT n (.cs vs) j)
  (h:Goes P true (RM ty Wg FM) DC0 (Dy P ty Wg FM A K vs) f0 a w):
  Out P ty o Wg C n SB jd K L0 w0 gs w sl t 0 (psi n (Vc j (xd D)) (.cs vs)+jM j D,ranks n D .leaf,f0+2*lq j D+2*sumTo o q):=by
 have Mk:=Vc_le j (xd D);have I6:=fK.le;rcases aA h with fB|⟨m',rfl,dS⟩
 ·obtain⟨_,gm⟩:=fB w (jw w);obtain⟨ho,rfl,rfl,qI⟩:=dY.open_inv trivial;obtain⟨hle,h1⟩:=qI vs rfl;obtain⟨SF,JO⟩:=gm (Vc j (xd D)) (by omega) (by simpa[mX]using fG);by_cases e:Vc j (xd D)=vs
  ·obtain⟨a',hgo,m₂,hk⟩:=SF e;exact qG (tag':=.ws) jl ha eP S fD hgo (aI w (stA Wg) _) (fG.setSt _) (wM bk_rw) (wI bk_rw) (.ws hk) (.reg trivial ho (by omega)) fK (.inl (by simp only[psi];omega))
  ·obtain⟨a',hgo,m₂,hk⟩:=JO e;exact qG (tag':=.anch) jl ha eP S fD hgo (.refl Wg _) fG (wM bk_rd) (wI bk_rd) (.anch vU uR hk) (dY.reopen trivial trivial rfl (by simp)) fK (.inl (by simp only[psi];omega))
 ·obtain⟨a',w',es,hgo,hD,fO⟩:=dS w (jw w);exact vI jl ha eP S fD fG dY fK hgo hD (.cs vU uR fO) (by omega)
omit hn in
theorem je9 (eP:iO P ty o Wg C n SB jd j gs w t D q 1) (dY:Mo j (xd D) .ws st sm) (fK:JT n .ws j)
  (h:Goes P true (RM ty Wg FM) DC0 (jQ P (.write (smA Wg)) (MG P ty Wg FM (yZ P ty Wg FM K))) f0 a w):
  Out P ty o Wg C n SB jd K L0 w0 gs w sl t 0 (psi n (Vc j (xd D)) .ws+jM j D,ranks n D .leaf,f0+2*lq j D+2*sumTo o q):=by
 rcases aA h with fB|⟨m',rfl,dS⟩
 ·obtain⟨_,a',hgo,m₂,hk⟩:=fB w (jw w);refine qG (tag':=.sm) jl ha eP S fD hgo (.refl Wg _) fG (WI (.inr rfl)) (Ps (by simp)) (.sm hk) ?_ fK (.inl (by simp only[psi];omega));cases dY with
  |opn h1 _ _=>exact h1.elim
  |reg h1 h2 h3=>exact .reg trivial h2 h3
  |last L h1 h2 h3 h4=>exact .last L trivial h2 h3 h4
  |sema h1 h2=>exact .sema (.inr rfl) h2
  |fin h1 _=>exact h1.elim
 ·obtain⟨a',w',es,hgo,hD,fO⟩:=dS w (jw w);exact vI jl ha eP S fD fG dY fK hgo hD (.ws fO) (by omega)
end
end
end
section
open Go Go.Conc Go.ConcN Sim
open Go.ConcR (KK WgAt stA smA rd wr mk Payload DC0 g_of_ofEvents Bk bk_of_mute ofEvent_loc_mark ofEvent_cell)
section
variable [Payload] {P:ax} {ty:aJ} {o Wg C n:Nat} {SB:Blocks} {jd:Nat->Blocks->aK->ag->Prop} {K:aa->ag->Prop} {L0:Nat} {w0:ag} {gs:Array aa} {w w':ag} {sl:Option (Nat×Nat)} {j:Nat} {D:Nat->WX} {q:Nat->Nat} {tag tag':Tag} {f0 f' d0:Nat} {rk C9:Rank} {FM OM Ab Aa:Blocks} {a a':aa} {t:aD} {st sm st' sm':Int} {es:Array bm}
variable (jl:∀i F v w w1,jd i F v w->Ext F w w1->jd i F v w1) (ha:gs[0]?=some a) (fD:Kept Wg C L0 w0 j D OM w) (S:Sep Wg C SB j D FM OM w) (fG:WgAt ty Wg w st sm)
include jl ha fD S fG
theorem jeb (eP:iO P ty o Wg C n SB jd j gs w t D q 1) (dY:Mo j (xd D) .sm st sm) (fK:JT n .sm j)
  (h:Goes P true (RM ty Wg FM) DC0 (yZ P ty Wg FM K) f0 a w):
  Out P ty o Wg C n SB jd K L0 w0 gs w sl t 0 (psi n (Vc j (xd D)) .sm+jM j D,ranks n D .leaf,(f0+1)+2*lq j D+2*sumTo o q):=by
 rcases aA h with fB|⟨m',rfl,dS⟩
 ·obtain⟨_,yE,hblk,rM⟩:=fB w (jw w);have nil:∀e∈(#[]:Array bm),∀y,(ai e).touch?=some y->∃b,y.loc=.cell b/\b.block=Wg/\y.kind≠.plain:=by simp
  cases dY with
  |opn h1 _ _=>exact h1.elim
  |reg h1 h2 h3=>exact qG (tag':=.blk) (f':=0) jl ha eP S fD (hblk ⟨_,fG⟩) (.refl Wg w) fG nil (by simp) (.blk fB) (.reg trivial h2 h3) fK (.inr ⟨rfl,rfl,by omega⟩)
  |last L h1 h2 h3 h4=>exact qG (tag':=.blk) (f':=0) jl ha eP S fD (hblk ⟨_,fG⟩) (.refl Wg w) fG nil (by simp) (.blk fB) (.last L trivial h2 h3 h4) fK (.inr ⟨rfl,rfl,by omega⟩)
  |sema h1 h2=>
   obtain⟨a',hgo,m₂,hk⟩:=rM fG;exact qG (tag':=.l2) jl ha eP S fD hgo (aI w (smA Wg) _) (fG.setSm 0) (wM bk_sem) (wI bk_sem) (.l2 hk) (.fin trivial h2) fK (.inl (by simp only[psi];omega))
  |fin h1 _=>exact h1.elim
 ·obtain⟨a',w',es,hgo,hD,fO⟩:=dS w (jw w);obtain⟨rfl,rfl⟩:=hD;exact qG (tag':=.sm) (f':=m'+1) jl ha eP S fD hgo (.refl Wg _) fG (by simp) (by simp) (.sm fO) dY fK (.inr ⟨rfl,rfl,by omega⟩)
theorem jcx (eP:iO P ty o Wg C n SB jd j gs w t D q 1) (dY:Mo j (xd D) .l2 st sm) (fK:JT n .l2 j)
  (h:Goes P true (RM ty Wg FM) DC0 (Dx P ty Wg FM K) f0 a w):
  Out P ty o Wg C n SB jd K L0 w0 gs w sl t 0 (psi n (Vc j (xd D)) .l2+jM j D,ranks n D .leaf,f0+2*lq j D+2*sumTo o q):=by
 rcases aA h with fB|⟨m',rfl,dS⟩
 ·obtain⟨_,hx⟩:=fB w (jw w);obtain⟨hq,rfl,rfl⟩:=dY.fin_inv trivial;obtain⟨a',hgo,m₂,hk⟩:=hx fG;exact qG (tag':=.en2) jl ha eP S fD hgo (.refl Wg _) fG (wM bk_rd) (wI bk_rd) (.en2 hk) (.fin trivial hq) fK (.inl (by simp only[psi];omega))
 ·obtain⟨a',w',es,hgo,hD,fO⟩:=dS w (jw w);exact vI jl ha eP S fD fG dY fK hgo hD (.l2 fO) (by omega)
theorem q72 (eP:iO P ty o Wg C n SB jd j gs w t D q 1) (dY:Mo j (xd D) .en2 st sm) (fK:JT n .en2 j)
  (h:Goes P true (RM ty Wg FM) DC0 (jQ P .enable (MG P ty Wg FM (jQ P (.acquire (stA Wg)) K))) f0 a w):
  Out P ty o Wg C n SB jd K L0 w0 gs w sl t 0 (psi n (Vc j (xd D)) .en2+jM j D,ranks n D .leaf,f0+2*lq j D+2*sumTo o q):=by
 rcases aA h with fB|⟨m',rfl,dS⟩
 ·obtain⟨_,a',hgo,m₂,hk⟩:=fB w (jw w);obtain⟨hq,rfl,rfl⟩:=dY.fin_inv trivial;exact qG (tag':=.acq) jl ha eP S fD hgo (.refl Wg _) fG (wM bk_en) (wI bk_en) (.acq hk) (.fin trivial hq) fK (.inl (by simp only[psi];omega))
 ·obtain⟨a',w',es,hgo,hD,fO⟩:=dS w (jw w);exact vI jl ha eP S fD fG dY fK hgo hD (.en2 fO) (by omega)
theorem jco (eP:iO P ty o Wg C n SB jd j gs w t D q 0) (dY:Mo j (xd D) (.gos r) st sm) (fK:JT n (.gos r) j) (hr:r<n)
  (h:Goes P true (RM ty Wg FM) DC0 (AtGoM P ty Wg C n jd (n-(r+1)) FM λg' w=>WG P true (Scr P ty Wg C n jd K r) FM (λ_=>False) g' w) f0 a w):
  Out P ty o Wg C n SB jd K L0 w0 gs w sl t 0 (psi n (Vc j (xd D)) (.gos r)+jM j D,ranks n D .leaf,f0+2*lq j D+2*sumTo o q):=by
 rcases aA h with fB|⟨m',rfl,dS⟩
 ·obtain⟨_,a',child,Ct,hcr,JJ,rk2,vD⟩:=fB w (jw w);have hj1:j+r+1=n:=fK;have ej:n-(r+1)=j:=by omega
  rw[ej]at JJ;obtain⟨F,hF,MZ,L9⟩:=JJ eP.pay;obtain⟨ho,rfl,rfl,_⟩:=dY.open_inv trivial;have eU:=eP.wY
  let x:WX:=⟨9,0,0,MZ,F,λ_=>False,.bool false⟩
  have S':Sep Wg C SB (j+1) (upd D j x) FM (λ_=>False) w:=by
   refine⟨λi hi b hb=>?_,λi hi b hb=>?_,λi1 i2 h1 h2 fA b hb gq=>?_,λb hb=>?_,λ_ h=>h.elim,S.lW,S.lC,S.lS,S.hCW,S.sW,S.sC⟩
   ·by_cases e:i=j
    ·subst e;rw[ak]at hb;have:=S.mF b (hF b hb);exact⟨this.1,this.2.1,this.2.2.1,this.2.2.2.1⟩
    ·rw[az D _ e]at hb;exact S.wF i (by omega) b hb
   ·by_cases e:i=j
    ·subst e;rw[ak]at hb;exact hb.elim
    ·rw[az D _ e]at hb⊢;exact S.wO i (by omega) b hb
   ·by_cases e:i1=j
    ·subst e;rw[ak]at hb;exact hb.elim
    ·rw[az D _ e]at hb;by_cases e2:i2=j
     ·subst e2;rw[ak]at gq;exact(S.mF b (hF b gq)).2.2.2.2 i1 (by omega) hb
     ·rw[az D _ e2]at gq;exact S.apart i1 i2 (by omega) (by omega) fA b hb gq
   ·have:=S.mF b hb;refine⟨this.1,this.2.1,this.2.2.1,this.2.2.2.1,λi hi hO=>?_⟩;by_cases e:i=j
    ·subst e;rw[ak]at hO;exact hO.elim
    ·rw[az D _ e]at hO;exact this.2.2.2.2 i (by omega) hO
  have vC:=runT_crowd_spawn (P:=P) (sl:=sl) (i:=0) ha (by simpa using Ct);rw[eP.size]at vC;have iH:=eP.spawn S' (a':=a') (child:=child) rfl rfl (.own (by rw[show(9:Nat)=9 from rfl]) rfl rfl L9) (fn:=a.frame.fn) (pos:=a.frame.place) (fn':=child.frame.fn) (pos':=a.frame.place);have ex:xd (upd D j x)=upd (xd D) j ⟨7,0,0⟩:=by rw[Ka];rfl
  have eV:Vc (j+1) (xd (upd D j x))=Vc j (xd D)+1:=by
   rw[ex];simp only[Vc,sumTo,ak];rw[sumTo_upd_out (xd D) _ cnt (ji _)];rfl
  have eS:jM (j+1) (upd D j x)=jM j D+9:=by
   simp only[jM,sumTo,ak];rw[sumTo_upd_out D _ WX.stage (ji _)]
  have Be:OpenSt (j+1) (xd (upd D j x)):=λi hi=>by
   rw[ex];by_cases e:i=j
   ·subst e;rw[ak];simp
   ·rw[az (xd D) _ e];exact ho i (by omega)
  have QJ:((gs.setIfInBounds 0 a').push child)[0]?=some a':=by
   have Qp:0<(gs.setIfInBounds 0 a').size:=by simp[eP.size];omega
   rw[bw Qp];simp
  have pO:Kept Wg C L0 w0 (j+1) (upd D j x) (λ_=>False) w:=by
   refine⟨fD.keep,fD.lW,fD.lC,λi hi b hb=>?_,λ_ h=>h.elim,fD.tape,fD.os,fD.output,fD.nb⟩;by_cases e:i=j
   ·subst e;rw[ak]at hb;exact hb.elim
   ·rw[az D _ e]at hb;exact fD.lO i (by omega) b hb
  refine⟨_,_,_,vC,?_,_,w,sl,j+1,upd D j x,q,.wg r,0,0,rk2,FM,λ_=>False,a',_,_,rfl,QJ,.wg (by omega) vD,?_,S',fG,?_,(by show j+1+r=n;omega),pO,rfl⟩
  ·refine bh _ _ ?_;rw[eS];simp only[psi];omega
  ·exact iH
  ·have e:((Vc j (xd D)+mX (.gos r):Nat):Int)*KK=((Vc (j+1) (xd (upd D j x))+mX (.wg r):Nat):Int)*KK:=by rw[eV];simp[mX]
   rw[e];exact .opn trivial Be (by simp)
 ·obtain⟨a',w',es,hgo,hD,fO⟩:=dS w (jw w);exact vI jl ha eP S fD fG dY fK hgo hD (.gos hr fO) (by omega)
theorem je8 {f:ag->Rank} (eP:iO P ty o Wg C n SB jd j gs w t D q 0) (dY:Mo j (xd D) (.wg r) st sm) (fK:JT n (.wg r) j) (hr:r<=n)
  (h:WGo P true (Scr P ty Wg C n jd K r) (.node f) FM OM a w):
  Out P ty o Wg C n SB jd K L0 w0 gs w sl t 0 (psi n (Vc j (xd D)) (.wg r)+jM j D,ranks n D (.node f),0+2*lq j D+2*sumTo o q):=by
 obtain⟨Ab,Aa,a',w',es,hgo,ok,sS⟩:=h.2 w (Ext.refl ..);have lW:=S.lW;have lC:=S.lC;have nO:∀b,OM b->b≠Wg/\b≠C:=λb hb=>⟨(S.mF b (S.mO b hb).1).2.1,(S.mF b (S.mO b hb).1).2.2.1⟩
 have hW:w'.heap[Wg]?=w.heap[Wg]?:=ok.keep Wg lW λh=>(nO Wg h).1 rfl;have hC:w'.heap[C]?=w.heap[C]?:=ok.keep C lC λh=>(nO C h).2 rfl;have iM:WgAt ty Wg w' st sm:=by unfold WgAt at *; rw[hW];exact fG
 have fC:=ok.size;have S':Sep Wg C SB j D Ab Aa w':=by
  refine⟨λi hi b hb=>let x:=S.wF i hi b hb;⟨xll x.1 fC,x.2⟩,S.wO,S.apart,λb hb=>?_,λb hb=>⟨ok.own b hb,λi hi hf=>?_⟩,xll S.lW fC,xll S.lC fC,λb hb=>xll (S.lS b hb) fC,S.hCW,S.sW,S.sC⟩
  ·refine⟨ok.low b hb,?_⟩;rcases ok.new b hb with h|h
   ·exact(S.mF b h).2
   ·exact⟨by omega,by omega,λhs=>by have:=S.lS b hs;omega,λi hi ho=>by have:=(S.wF i hi b (S.wO i hi b ho)).1;omega⟩
  ·rcases ok.BI b hb with h|h
   ·exact(S.mO b h).2 i hi hf
   ·have:=(S.wF i hi b hf).1;omega
 have xB:MS P ty Wg C n jd K (.wg r) 0 (ay 0 es) (f w) Ab Aa a' w':=by
  rw[deafBehind_idle (λe he=>⟨(Cj (Wg:=Wg) (ok.ev e he) ok.low).1,(Cj (Wg:=Wg) (ok.ev e he) ok.low).2.1⟩) 0];exact .wg hr sS
 refine callerStep jl ha eP S hgo (tag':=.wg r) (f':=0) xB S'
  (λi hi=>⟨⟨fC,λb hb=>ok.keep b (S.wF i hi b hb).1 λho=>(S.mO b ho).2 i hi hb⟩,Uc hW hC⟩) fC (λop eU=>?_) (λe he y hy=>(OI (ok.ev e he) hy).1)
  (λe he=>(Cj (Wg:=Wg) (ok.ev e he) ok.low).2.2.1) (λe he=>DR (Cj (Wg:=Wg) (ok.ev e he) ok.low).2.2.2) ?_ iM dY fK ?_ (.inr (.inl ⟨rfl,⟨w,rfl⟩⟩))
 ·obtain⟨e,he,rfl⟩:=aj eU;refine⟨rfl,λy hy=>.inr ?_⟩;obtain⟨h1,h2,h3,h4⟩:=OI (ok.ev e he) hy;have pM:∀{b:Nat},Ab b->b≠Wg/\b≠C/\¬SB b/\∀i,i<j->¬(D i).O b:=λhb=>(S'.mF _ hb).2;have vR:∀{B:Blocks} {l:Loc},wJ B l->∃b,B b/\((∃a,l=.cell a/\a.block=b)\/l=.obj b):=by
   intro B l hl;cases l with
   |cell a=>exact⟨_,hl,.inl ⟨a,rfl,rfl⟩⟩
   |obj r=>exact⟨_,hl,.inr rfl⟩
   |_=>exact hl.elim
  have same:∀{b b':Nat} {l:Loc},((∃a:Addr,l=.cell a/\a.block=b)\/l=.obj b)->((∃a:Addr,l=.cell a/\a.block=b')\/l=.obj b')->b=b':=by
   intro b b' l h1 h2;rcases h1 with⟨a,rfl,rfl⟩|rfl
   ·rcases h2 with⟨a',e,rfl⟩|e
    ·cases e;rfl
    ·cases e
   ·rcases h2 with⟨a',e,rfl⟩|e
    ·cases e
    ·cases e;rfl
  obtain⟨b,hb,hl⟩:=vR h3;have gK:=pM hb;refine⟨?_,λk k1 kj=>?_,λqY k k1 kj=>?_⟩
  ·rintro⟨c,hc,hs⟩;rw[hc]at hl;rcases hl with⟨a1,e,rfl⟩|e
   ·cases e;rcases hs with hs|hs
    ·exact gK.2.2.1 hs
    ·exact gK.1 hs
   ·cases e
  ·rintro⟨i,hi,rfl,h5⟩;rcases h5 with h5|h5
   ·obtain⟨b',gq,lN⟩:=vR h5;obtain rfl:=same hl lN;exact gK.2.2.2 i hi gq
   ·rw[h5]at hl;rcases hl with⟨a1,e,rfl⟩|e
    ·cases e;exact gK.2.1 rfl
    ·cases e
  ·rintro⟨i,hi,rfl,h5⟩;obtain⟨b',⟨gq,_⟩,lN⟩:=vR h5;obtain⟨b3,gN,hl3⟩:=vR (h4 qY);obtain rfl:=same hl lN;obtain rfl:=same hl hl3;exact(S'.mO _ gN).2 i hi gq
 ·obtain⟨cs,h1,h2⟩:=eP.pay;exact⟨cs,by rw[hC];exact h1,h2⟩
 ·refine⟨λb hb=>(ok.keep b (by have:=fD.lW;omega) λho=>by have:=fD.lM b ho;omega).trans (fD.keep b hb),fD.lW,fD.lC,fD.lO,λb hb=>?_,ok.tape.trans fD.tape,ok.os.trans fD.os,ok.output.trans fD.output,λx=>ok.nb (fD.nb x)⟩;rcases ok.BI b hb with h|h
  ·exact fD.lM b h
  ·have:=fD.lW;omega
end
end
section
open Go Go.Conc Go.ConcN Sim
open Go.ConcR (KK WgAt stA smA rd wr mk Payload DC0 g_of_ofEvents Bk bk_of_mute ofEvent_loc_mark ofEvent_cell ofEvent_mk)
section
variable {o Wg C n:Nat} {SB:Blocks} {D:Nat->WX} {w:ag} {t:aD}
theorem qs1 (tr:Ah o Wg C SB n D w t) (ho:0<o) {q:Nat} (hq:t.act? q=some (.mark (.acquire (stA Wg)))) (hg:t.g? q=some 0) (hh:t.heard q) (all:∀i,i<n->∃r,RelBy (stA Wg) t (o+i) r/\r<q) (h0:Deaf t 0=0):
  xw (λb=>SB b\/b=Wg) w (o+n) t:=by
 obtain⟨p,p0,p1,p2⟩:=tr.norel;have late:∀{i g:Nat},t.g? i=some g->o<=g->t.counts i->bF t i q:=by
  intro i g Gl hle hc;obtain⟨op,eU,rfl⟩:=ao.1 Gl;have hb:=tr.ct.gs i op eU;obtain⟨r,hr,hrq⟩:=all (op.g-o) (by omega);rw[show o+(op.g-o)=op.g by omega]at hr;have hrp:p<=r:=cE λh=>by have:=p1 r _ h hr.g;omega
  have he:bF t r q:=.single (.inr ⟨.marked hrq (.inr hr.act) hq (λk hk _=>p2 k (by omega)),hr.heard,hh⟩);have hle:i<=r:=cE λeH=>hr.after i eH Gl hc;rcases cP i r with eH|jK
  ·exact .trans (.single (.inl ⟨eH,op.g,Gl,hr.g⟩)) he
  ·obtain rfl:i=r:=by omega
   exact he
 obtain⟨B,hB⟩:=q8s t;refine⟨⟨B,tr.ct.nr,λi a ha hm=>?_,λi g Gl fA hc=>?_,h0,hB⟩,tr.seen,tr.mem,tr.ct.quiet,λop eU=>?_⟩
 ·rcases tr.known i a ha with h|h|⟨g,h1,h2,h3⟩
  ·exact .inl h
  ·exact .inr h
  ·refine .inl ?_;obtain⟨z,hz,Y3⟩:=ao.1 hg;exact⟨q,z,hz,Y3,.inr (late h1 h2 ⟨a,ha,hm,.inl h3⟩)⟩
 ·rcases cP g o with eH|jK
  ·exact tr.hand i g Gl fA eH hc
  ·exact⟨q,hg,late Gl jK hc⟩
 ·obtain⟨i,hi,rfl⟩:=Array.mem_iff_getElem.1 eU;have:=tr.ct.gs i _ (aF hi);omega
end
section
variable [Payload] (P:ax) (ty:aJ) (o Wg C n:Nat) (SB:Blocks) (jd:Nat->Blocks->aK->ag->Prop) (K:aa->ag->Prop) (L0:Nat) (w0:ag)
structure Joined (gs:Array aa) (a:aa) (w:ag) (t:aD) (D:Nat->WX) (FM:Blocks) (q:Nat->Nat):Prop where
 size:gs.size=o+n
 main:gs[0]?=some a
 k:K a w
 leavers:bG P t gs q
 past:xw (λb=>SB b\/b=Wg) w gs.size t
 res:∀i,i<n->jd i (D i).F (D i).val w/\Has C i (D i).val w
 pay:co C n w
 sep:Sep Wg C SB n D FM (λ_=>False) w
 kept:Kept Wg C L0 w0 n D (λ_=>False) w
end
section
variable [Payload] {P:ax} {ty:aJ} {o Wg C n:Nat} {SB:Blocks} {jd:Nat->Blocks->aK->ag->Prop} {K:aa->ag->Prop} {L0:Nat} {w0:ag} {gs:Array aa} {w w':ag} {sl:Option (Nat×Nat)} {j:Nat} {D:Nat->WX} {q:Nat->Nat} {tag tag':Tag} {f0 f' d0:Nat} {rk C9:Rank} {FM OM Ab Aa:Blocks} {a a':aa} {t:aD} {st sm st' sm':Int} {es:Array bm}
section
variable (jl:∀i F v w w1,jd i F v w->Ext F w w1->jd i F v w1) (ha:gs[0]?=some a) (fD:Kept Wg C L0 w0 j D OM w) (S:Sep Wg C SB j D FM OM w) (fG:WgAt ty Wg w st sm)
include jl ha fD S fG
theorem q7g (eP:iO P ty o Wg C n SB jd j gs w t D q 0) (dY:Mo j (xd D) .acq st sm) (fK:JT n .acq j)
  (h:Goes P true (RM ty Wg FM) DC0 (jQ P (.acquire (stA Wg)) K) f0 a w):
  (∃fE a' ops q',runT P (crowd gs w sl) 0=(.next (crowd fE w sl),ops)/\Joined P o Wg C n SB jd K L0 w0 fE a' w (t++ops) D FM q')\/
  Out P ty o Wg C n SB jd K L0 w0 gs w sl t 0 (psi n (Vc j (xd D)) .acq+jM j D,ranks n D .leaf,f0+2*lq j D+2*sumTo o q):=by
 rcases aA h with fB|⟨m',rfl,dS⟩
 ·left;obtain⟨_,a',hgo,hk⟩:=fB w (jw w);obtain⟨hq,rfl,rfl⟩:=dY.fin_inv trivial;obtain rfl:j=n:=fK;have eU:=eP.wY;have hst:∀i,i<j->(D i).stage=1:=λi hi=>by
   have:=hq i hi;simp only[xd]at this;split at this
   ·omega
   ·exact this
  have fu:=bp (P:=P) (sl:=sl) (i:=0) ha (show aw P (0==0) a w=_ from hgo);have iH:=eP.step0 (fn:=a.frame.fn) (pos:=a.frame.place) jl S (es:=#[mk (.acquire (stA Wg))]) (w':=w) (a:=a) (a':=a') (λi hi=>⟨Ext.refl ..,bk w⟩) (ji _)
   (Xe (by intro e he y hy;simp at he;subst he;cases hy)) (by intro e he y hy;simp at he;subst he;cases hy) (Ps (by simp)) (by intro e he y hy;simp at he;subst he;cases hy) eP.pay
  have e1:au 0 a.frame.fn a.frame.place #[mk (.acquire (stA Wg))]=#[{g:=0,fn:=a.frame.fn,pos:=a.frame.place,act:=.mark (.acquire (stA Wg))}]:=by rw[ofEvents_eq];simp[ofEvent_mk]
  have hy:(t++#[({g:=0,fn:=a.frame.fn,pos:=a.frame.place,act:=.mark (.acquire (stA Wg))}:MemOp)])[t.size]?=some {g:=0,fn:=a.frame.fn,pos:=a.frame.place,act:=.mark (.acquire (stA Wg))}:=by simp
  have hP:=qs1 iH.tr eU (q:=t.size) (by rw[e1,act?_of hy]) (by rw[e1];simp[bY]) (by rw[e1];exact⟨0,by simp[bY],by rw[deaf_old (ji _)];exact eP.deaf0⟩)
   (λi hi=>by
    obtain⟨r,hr⟩:=eP.rel i hi (by rw[hst i hi];omega)
    exact⟨r,hr.appOther g_of_ofEvents (by omega),lt_of_act? hr.act⟩) (by rw[iH.deaf0];rfl)
  have TG:∀i,i<j->∃g,((gs.map (woken P a a' w)).setIfInBounds 0 a')[o+i]?=some g/\QuitsD P (D i).fuel (D i).deaf g/\jd i (D i).F (D i).val w:=λi hi=>by
   obtain⟨g,hg,hs⟩:=iH.wk i hi;have h1:=hst i hi;cases hs with
   |own h9 _ _ _=>omega
   |lib h hr=>exact⟨g,hg,h.quits h1,hr⟩
  refine⟨_,a',_,λi=>if i<o then q i else(D (i-o)).fuel,fu,by simp[eP.size],bA _ _ _ (by rw[eP.size];omega),hk,⟨λi g h0 hg=>?_,λk rZ=>?_⟩,?_,λi hi=>⟨?_,?_⟩,eP.pay,S.none,fD.none⟩
  ·show QuitsD P (if i<o then q i else(D (i-o)).fuel) _ g;by_cases eH:i<o
   ·rw[if_pos eH];exact iH.old i g h0 eH hg
   ·rw[if_neg eH];have hi:i<o+j:=by have:=(zi hg).1;rw[iH.size]at this;exact this
    obtain⟨g',fO,Em,_⟩:=TG (i-o) (by omega);rw[show o+(i-o)=i by omega]at fO;obtain rfl:g=g':=by rw[hg]at fO;exact xoi fO
    have:=iH.deafW (i-o) (by omega);rw[show o+(i-o)=i by omega]at this;rw[this];exact Em
  ·rw[iH.size]at rZ;exact iH.above k rZ
  ·rw[iH.size];exact hP
  ·exact(TG i hi).choose_spec.2.2
  ·exact eP.has i hi (by rw[hst i hi];omega)
 ·right;obtain⟨a',w',es,hgo,hD,fO⟩:=dS w (jw w);exact vI jl ha eP S fD fG dY fK hgo hD (.acq fO) (by omega)
end
theorem WS.running_of {d:WX} (h:WS P ty Wg C n jd i d g w) (hs:d.stage≠1):g.status=.running:=by
 cases h with
 |own h1 h2 h3 h=>exact NF (λ_ _ _ _ x=>x.1) h
 |lib h hr=>exact h.running_of hs
theorem someone_runs (ha:gs[0]?=some a) (kQ:MS P ty Wg C n jd K tag f0 d0 rk FM OM a w) (eP:iO P ty o Wg C n SB jd j gs w t D q d0) (dY:Mo j (xd D) tag st sm):
  ∃(i:Nat) (g:aa),gs[i]?=some g/\g.status=.running:=by
 rcases kQ.status with⟨hs,_⟩|⟨_,rfl⟩
 ·exact⟨0,a,ha,hs⟩
 ·have xs:∀{i:Nat},(xd D i).stage≠1->(D i).stage≠1:=λ{i} h e=>h (by simp only[xd,e];rfl);cases dY with
  |opn h1 _ _=>exact h1.elim
  |reg _ _ h3=>
   obtain⟨i,hi,h5⟩:=exists_counted h3;obtain⟨g,hg,hs⟩:=eP.wk i hi;exact⟨o+i,g,hg,hs.running_of (xs (by omega))⟩
  |last L _ h2 h3 _=>
   obtain⟨g,hg,hs⟩:=eP.wk L h2;exact⟨o+L,g,hg,hs.running_of (xs (by omega))⟩
  |sema h1 _=>rcases h1 with h1|h1<;>cases h1
  |fin h1 _=>exact h1.elim
theorem all_awake (ha:gs[0]?=some a) (kQ:MS P ty Wg C n jd K tag f0 d0 rk FM OM a w) (eP:iO P ty o Wg C n SB jd j gs w t D q d0):∀g∈gs,awake g:=by
 intro g hg tm;obtain⟨i,hi⟩:=Array.mem_iff_getElem?.1 hg;rcases aQ i with rfl|jN
 ·rw[ha]at hi;cases hi;rcases kQ.status with⟨hs,_⟩|⟨hs,_⟩<;>rw[hs]<;>simp
 ·by_cases eH:i<o
  ·rcases(eP.old i g jN eH hi).status with h|h<;>rw[h]<;>simp
  ·have CB:i<o+j:=by have:=(zi hi).1;rw[eP.size]at this;exact this
   obtain⟨g',fO,hs⟩:=eP.wk (i-o) (by omega);rw[show o+(i-o)=i by omega]at fO;rw[hi]at fO;cases fO;rcases hs.status with h|h<;>rw[h]<;>simp
theorem qv7 (jl:∀i F v w w1,jd i F v w->Ext F w w1->jd i F v w1) (hn:n<2147483648):∀(μ:Mea) (m:Machine) (t:aD),vG P ty o Wg C n SB jd K L0 w0 μ m t->
  (∃fE a' w' sl' ops D FM q',stepT P m=(.next (crowd fE w' sl'),ops)/\Joined P o Wg C n SB jd K L0 w0 fE a' w' (t++ops) D FM q')\/
  (∃m' ops μ',stepT P m=(.next m',ops)/\MLt (n+1) μ' μ/\vG P ty o Wg C n SB jd K L0 w0 μ' m' (t++ops)):=by
 rintro μ m t ⟨gs,w,sl,j,D,q,tag,f0,d0,rk,FM,OM,a,st,sm,rfl,ha,kQ,eP,S,fG,dY,fK,fD,rfl⟩;obtain⟨i,g,d,sl',hg,fu,dS⟩:=crowd_pick (P:=P) (w:=w) (sl:=sl) (all_awake ha kQ eP) (someone_runs ha kQ eP dY);rw[dS];have kQ:=kQ.rely (w1:=w.at d) ⟨⟨ji _,λ_ _=>rfl⟩,λx=>x⟩;have eP:=eP.at jl d;have fG:WgAt ty Wg (w.at d) st sm:=fG;have S:Sep Wg C SB j D FM OM (w.at d):=⟨S.wF,S.wO,S.apart,S.mF,S.mO,S.lW,S.lC,S.lS,S.hCW,S.sW,S.sC⟩
 have fD:Kept Wg C L0 w0 j D OM (w.at d):=⟨fD.keep,fD.lW,fD.lC,fD.lO,fD.lM,fD.tape,fD.os,fD.output,fD.nb⟩
 generalize w.at d=w at*;have eU:=eP.wY;rcases aQ i with rfl|jN
 ·obtain rfl:g=a:=by rw[ha]at hg;exact(xoi hg).symm
  cases kQ with
  | @wg r _ _ _ _ _ hr h=>
   right;cases rk with
   |node f=>exact je8 jl ha fD S fG eP dY fK hr h
   |leaf=>
    have hs:=h w (Ext.refl ..);cases r with
    |zero=>
     obtain⟨A,vU,uR,m₂,hk⟩:=hs.2 ⟨_,_,fG⟩;obtain⟨m₁,ops,μ',h1,h2,h3⟩:=XF (sl:=sl') jl ha fD S fG vU uR eP (dY.reopen trivial trivial rfl (by simp)) fK hk;exact⟨m₁,ops,μ',h1,h2.lt1 (by simp only[psi];omega),h3⟩
    |succ r=>
     obtain⟨m₂,hk⟩:=hs.2 ⟨_,_,fG⟩;obtain⟨m₁,ops,μ',h1,h2,h3⟩:=Uh (sl:=sl') jl ha fD S fG eP (dY.reopen (tag':=.kdS r) trivial trivial rfl (by simp)) (by have:j+(r+1)=n:=fK;show j+r+1=n;omega) (by omega) hk;exact⟨m₁,ops,μ',h1,h2.lt1 (by simp only[psi];omega),h3⟩
  |kdS hr h=>exact .inr (Uh jl ha fD S fG eP dY fK hr h)
  |ad hr h=>exact .inr (jb2 jl hn ha fD S fG eP dY fK hr h)
  |rs hr h=>exact .inr (jdz jl ha fD S fG eP dY fK hr h)
  |en hr h=>exact .inr (jcj jl ha fD S fG eP dY fK hr h)
  |gos hr h=>exact .inr (jco jl ha fD S fG eP dY fK hr h)
  |kd h1 h2 h=>exact .inr (XF jl ha fD S fG h1 h2 eP dY fK h)
  |anch h1 h2 h=>exact .inr (q10 jl hn ha fD S fG h1 h2 eP dY fK h)
  |ld h1 h2 h=>exact .inr (XD jl hn ha fD S fG h1 h2 eP dY fK h)
  |cs h1 h2 h=>exact .inr (jcb jl hn ha fD S fG h1 h2 eP dY fK h)
  |ws h=>exact .inr (je9 jl ha fD S fG eP dY fK h)
  |sm h=>exact .inr (jeb jl ha fD S fG eP dY fK h)
  |blk h=>simp at fu
  |l2 h=>exact .inr (jcx jl ha fD S fG eP dY fK h)
  |en2 h=>exact .inr (q72 jl ha fD S fG eP dY fK h)
  |acq h=>
   rcases q7g (sl:=sl') jl ha fD S fG eP dY fK h with⟨fE,a',ops,q',h1,h2⟩|h
   ·exact .inl ⟨fE,a',w,sl',ops,D,FM,q',h1,h2⟩
   ·exact .inr h
 ·right;by_cases eH:i<o
  ·exact q81 ha kQ eP S fK fD fG (λtag' ht=>dY.retag ht) jN eH hg fu
  ·have CB:i<o+j:=by have:=(zi hg).1;rw[eP.size]at this;exact this
   obtain⟨i',rfl⟩:∃i',i=o+i':=⟨i-o,by omega⟩
   have fI:i'<j:=by omega
   obtain⟨g',fO,hs⟩:=eP.wk i' fI;obtain rfl:g=g':=by rw[hg]at fO;exact xoi fO
   cases hs with
   |own h9 hd hf hw=>
    generalize Cv:(D i').rank=MZ at hw;cases MZ with
    |leaf=>exact q0k jl ha kQ eP S fK fD fG dY fI hg h9 hd (hw w (Ext.refl ..))
    |node f=>exact q83 jl ha kQ eP S fK fD fG dY fI hg h9 hd Cv hw
   |lib h hr=>exact q8o jl hn ha kQ eP S fK fD fG dY fI hg fu h hr
theorem qzz (jl:∀i F v w w1,jd i F v w->Ext F w w1->jd i F v w1) (hn:n<2147483648):∀(μ:Mea) (m:Machine) (t:aD),vG P ty o Wg C n SB jd K L0 w0 μ m t->
  ∃N fE a' w' sl' t' D FM q',runNT P N m t=(.next (crowd fE w' sl'),t')/\Joined P o Wg C n SB jd K L0 w0 fE a' w' t' D FM q':=by
 intro μ;induction μ using(MLt.wf (n+1)).induction with
 |_ μ ih=>
  intro m t h;rcases qv7 jl hn μ m t h with⟨fE,a',w',sl',ops,D,FM,q',h1,h2⟩|⟨m',ops,μ',h1,h2,h3⟩
  ·exact⟨1,fE,a',w',sl',_,D,FM,q',by simp only[runNT,h1],h2⟩
  ·obtain⟨N,fE,a',w',sl',t',D,FM,q',h4,h5⟩:=ih μ' h2 m' _ h3;exact⟨N+1,fE,a',w',sl',t',D,FM,q',by simp only[runNT,h1];exact h4,h5⟩
end
theorem runNT_trans {P:ax} (a:Nat) {b:Nat} {m m':Machine} {t':aD} {r:Stepped×aD} (h:runNT P a m t=(.next m',t')) (k:runNT P b m' t'=r):runNT P (a+b) m t=r:=by
 rw[runNT_add,h];exact k
theorem qR.app {u:aD} {l:Loc} (h:qR t l) (hu:∀op∈u,∀x,op.act.touch?=some x->x.loc≠l):qR (t++u) l:=by
 intro i a ha;obtain⟨op,eU,sZ⟩:=cg ha;rcases aS eU with⟨hi,fZ⟩|⟨_,ug⟩
 ·exact h i a (by rw[touchAt_of fZ];exact sZ)
 ·exact hu op ug a sZ
theorem xw.at {SB:Blocks} (h:xw SB w n t) (d:Nat):xw SB (w.at d) n t:=⟨h.past,h.seen,h.mem,h.quiet,h.gs⟩
section
variable {P:ax} {SB:Blocks}
theorem qrv:∀(M:Nat) (gs:Array aa) (a:aa) (w:ag) (sl:Option (Nat×Nat)) (t:aD) (q:Nat->Nat),sumTo gs.size q<=M->gs[0]?=some a->a.status=.running->bG P t gs q->xw SB w gs.size t->
  ∃(N:Nat) (fE:Array aa) (iZ:Option (Nat×Nat)) (d1:Nat) (sl':Option (Nat×Nat)) (t':aD) (q':Nat->Nat) (d:Nat),
   runNT P N (crowd gs w sl) t=(.next (crowd fE (w.at d1) iZ),t')/\stepT P (crowd fE (w.at d1) iZ)=runT P (crowd fE (w.at d) sl') 0/\fE.size=gs.size/\fE[0]?=some a/\bG P t' fE q'/\xw SB w fE.size t'/\∀l,qR t l->qR t' l:=by
 intro M;induction M with
 |zero|succ M ih=>
  intro gs a w sl t q hM h0 fu hL hP;have haw:∀g∈gs,awake g:=by
   intro g hg;obtain⟨i,hi,rfl⟩:=Array.mem_iff_getElem.1 hg;rcases aQ i with rfl|jN
   ·have:gs[0]=a:=by simpa[aF hi]using h0
    rw[this];exact awake_of (.inl fu)
   ·exact awake_of ((hL.old i _ jN (aF hi)).status.elim .inl λx=>.inr (.inr x))
  obtain⟨i,g,d,sl',hi,hg,hst⟩:=crowd_pick (P:=P) (w:=w) (sl:=sl) haw ⟨0,a,h0,fu⟩;rcases aQ i with rfl|jN
  ·exact⟨0,gs,sl,w.drawn,sl',t,q,d,rfl,hst,rfl,h0,hL,hP,λ_ h=>h⟩
  ·have hq:=hL.old i g jN hi;have Zl:(i==0)=false:=by simp;omega
   have eH:i<gs.size:=(zi hi).1;cases Qs:q i with
   |zero=>rw[Qs]at hq;rw[hq.1]at hg;cases hg
   |succ k=>
    rw[Qs]at hq;rcases hq with⟨hf,_⟩|⟨_,g',es,hm,EJ,Em⟩
    ·rw[hf]at hg;cases hg
    have rO:=bp (P:=P) (sl:=sl') (i:=i) hi (by rw[Zl];exact EJ (w.at d));have fC:((gs.map (woken P g g' (w.at d))).setIfInBounds i g').size=gs.size:=by simp
    have RQ:sumTo gs.size (upd q i k)+(k+1)=sumTo gs.size q+k:=by
     have:=sumTo_upd q k id eH;simpa[Qs]using this
    first
    |(exfalso;omega)
    |obtain⟨N,fE,iZ,d1,RN,t',q',d',hr,oP,hz,uS,uQ,rG,tJ⟩:=ih ((gs.map (woken P g g' (w.at d))).setIfInBounds i g') a (w.at d) sl' (t++au i g.frame.fn g.frame.place es) (upd q i k) (by rw[fC];omega)
      (by
       have fA:i≠0:=by omega
       rw[xne fA,bK,h0]
       simp[woken_run fu]) fu
      ⟨λj x hj hx=>by
       by_cases Gh:i=j
       ·subst Gh;rw[xsl (by simpa using eH)]at hx;obtain rfl:=xoi hx;rw[ak,Deaf_own];exact Em
       ·rw[xne Gh,bK]at hx;obtain⟨y,hy,rfl⟩:=ao.1 hx;have Zb:=hL.old j y hj hy;rw[bI Zb,az q k (Ne.symm Gh),bz t Gh _ (λop eU=>by obtain⟨e,_,rfl⟩:=aj eU;rfl)];exact Zb,λj hj=>by
       rw[bz t (g':=i) (by simp at hj;omega) _ (λop eU=>by obtain⟨e,_,rfl⟩:=aj eU;rfl)]
       exact hL.above j (by simpa using hj)⟩
      (by rw[fC];exact(hP.at d).mute (by omega) eH hm)
     exact⟨N+1,fE,iZ,d1,RN,t',q',d',by simp only[runNT,hst,rO];exact hr,oP,hz.trans fC,uS,uQ,⟨rG.past,rG.seen,rG.mem,rG.quiet,rG.gs⟩,
      λl hl=>tJ l (hl.app λop eU x hx=>by
       obtain⟨e,he,rfl⟩:=aj eU
       rw[touch_mute (hm e he)]at hx;cases hx)⟩
def EvZ (SB:Blocks) (B:Nat) (e:bm):Prop:=EvL (ShB SB) B e/\∀y,(ai e).touch?=some y->y.loc.isMemory=true
theorem xw.evs (h:xw SB w n t) (hn:0<n) (fC:w.heap.size<=w'.heap.size) (jX:∀e∈es,EvZ SB w'.heap.size e) (fn:aW) (pos:String):xw SB w' n (t++au 0 fn pos es):=by
 obtain⟨B,hP⟩:=h.past;refine⟨⟨max B w'.heap.size,(hP.mono (Nat.le_max_left ..)).own λe he=>?_⟩,La (λop eU=>(h.seen op eU).mono fC) (λop eU=>?_),FH h.mem (λop eU x hx=>?_),h.quiet.app λop eU x hx hs=>?_,λop eU=>?_⟩
 ·have:=(jX e he).1;exact⟨this.1,this.2.1,this.2.2.1,MemAct.low_mono (Nat.le_max_right ..) this.2.2.2⟩
 ·obtain⟨e,he,rfl⟩:=aj eU;exact DR (jX e he).1.2.2.2
 ·obtain⟨e,he,rfl⟩:=aj eU;exact(jX e he).2 x hx
 ·obtain⟨e,he,rfl⟩:=aj eU;exact⟨(jX e he).1.1 x hx hs,λ_=>rfl⟩
 ·rcases bZ.1 eU with h'|h'
  ·exact h.gs op h'
  ·obtain⟨e,he,rfl⟩:=aj h';exact hn
theorem zG {gs:Array aa} {a:aa} {sl:Option (Nat×Nat)} {q:Nat->Nat} (h0:gs[0]?=some a) (fu:a.status=.running) (hL:bG P t gs q) (hP:xw SB w gs.size t)
  (hs:∀d,∃a' w' es,aw P true a (w.at d)=.go a' w' es/\w.heap.size<=w'.heap.size/\∀e∈es,EvZ SB w'.heap.size e):
  ∃(N:Nat) (fE:Array aa) (a':aa) (d:Nat) (w':ag) (es:Array bm) (sl':Option (Nat×Nat)) (t':aD) (q':Nat->Nat),
   runNT P N (crowd gs w sl) t=(.next (crowd fE w' sl'),t')/\aw P true a (w.at d)=.go a' w' es/\fE.size=gs.size/\fE[0]?=some a'/\bG P t' fE q'/\xw SB w' fE.size t'/\
   ∀l,qR t l->(∀e∈es,∀x,(ai e).touch?=some x->x.loc≠l)->qR t' l:=by
 obtain⟨N,fE,iZ,d1,sl',t',q',d,hr,hst,hz,uS,uQ,rG,tJ⟩:=qrv (P:=P) _ gs a w sl t q (ji _) h0 fu hL hP;obtain⟨a',w',es,hgo,fC,iG⟩:=hs d;have rO:=bp (P:=P) (sl:=sl') (i:=0) uS (show aw P (0==0) a (w.at d)=_ from hgo);have eH:0<fE.size:=(zi uS).1;have wm:((fE.map (woken P a a' w')).setIfInBounds 0 a').size=fE.size:=by simp
 refine⟨N+1,(fE.map (woken P a a' w')).setIfInBounds 0 a',a',d,w',es,sl',t'++au 0 a.frame.fn a.frame.place es,q',?_,hgo,wm.trans hz,by simp[eH],⟨λj x hj hx=>?_,λj hj=>?_⟩,?_,λl hl he=>?_⟩
 ·rw[show N+1=N+1 from rfl];exact runNT_trans _ hr (by simp only[runNT,hst,rO])
 ·have fA:0≠j:=by omega
  rw[xne fA,bK]at hx;obtain⟨y,hy,rfl⟩:=ao.1 hx;have hq:=uQ.old j y hj hy;rw[bI hq,bz t' (by omega) _ (λop eU=>by obtain⟨e,_,rfl⟩:=aj eU;rfl)];exact hq
 ·rw[bz t' (g':=0) (by simp at hj;omega) _ (λop eU=>by obtain⟨e,_,rfl⟩:=aj eU;rfl)];exact uQ.above j (by simpa using hj)
 ·rw[wm];exact(rG.at d).evs eH fC iG _ _
 ·refine(tJ l hl).app λop eU x hx=>?_;obtain⟨e,h1,rfl⟩:=aj eU;exact he e h1 x hx
theorem quk {R:ag->ag->Prop} {Stop:aa->ag->Prop} (hR:∀w d,R w (w.at d)) (hs:∀g w,Stop g w->g.status=.running):∀(n:Nat) (gs:Array aa) (a:aa) (w:ag) (sl:Option (Nat×Nat)) (t:aD) (q:Nat->Nat),gs[0]?=some a->bG P t gs q->xw SB w gs.size t->
   Goes P true R DC0 Stop n a w->
   ∃(N:Nat) (fE:Array aa) (a':aa) (d:Nat) (sl':Option (Nat×Nat)) (t':aD) (q':Nat->Nat),
    runNT P N (crowd gs w sl) t=(.next (crowd fE (w.at d) sl'),t')/\fE.size=gs.size/\fE[0]?=some a'/\Stop a' (w.at d)/\bG P t' fE q'/\xw SB (w.at d) fE.size t':=by
 intro n;induction n with
 |zero=>exact λgs a w sl t q h0 hL hP hG=>⟨0,gs,a,w.drawn,sl,t,q,rfl,rfl,h0,hG w (hR w w.drawn),hL,hP⟩
 |succ n ih=>
  intro gs a w sl t q h0 hL hP hG;rcases hG with fB|⟨fu,dS⟩
  ·exact⟨0,gs,a,w.drawn,sl,t,q,rfl,rfl,h0,fB w (hR w w.drawn),hL,hP⟩
  have key:∀d,∃a',aw P true a (w.at d)=.go a' (w.at d) #[]/\Goes P true R DC0 Stop n a' (w.at d):=λd=>by
   have:=dS (w.at d) (hR w d);cases hgo:aw P true a (w.at d)with
   |go a' w' es=>
    rw[hgo,goes_go]at this;obtain⟨⟨rfl,rfl⟩,hG'⟩:=this;exact⟨a',rfl,hG'⟩
   |_=>rw[hgo]at this;exact this.elim
  obtain⟨N,jZ,a1,d,w1,gD,iZ,t1,q1,hr,hgo,hz,nJ,nW,pU,_⟩:=zG (P:=P) (SB:=SB) (sl:=sl) h0 fu hL hP λd=>let⟨a',h1,_⟩:=key d;⟨a',_,_,h1,ji _,by simp⟩;obtain⟨a',h1,h2⟩:=key d;rw[hgo]at h1;cases h1;obtain⟨N',fE,a',d',sl',t',q',gT,Ba,uS,hS,uQ,rG⟩:=ih jZ _ (w.at d) iZ t1 q1 nJ nW pU h2;exact⟨N+N',fE,a',d',sl',t',q',runNT_trans _ hr gT,Ba.trans hz,uS,hS,uQ,rG⟩
end
section
variable [Payload] {P:ax} {ty:aJ} {Wg C n:Nat} {SB:Blocks} {jd:Nat->Blocks->aK->ag->Prop} {K:aa->ag->Prop} {L0:Nat} {gs:Array aa} {w:ag} {sl:Option (Nat×Nat)} {q:Nat->Nat} {F O:Blocks} {a:aa} {t:aD}
theorem phase (jl:∀i F v w w1,jd i F v w->Ext F w w1->jd i F v w1) (hn:n<2147483648) (h0:gs[0]?=some a) (hL:bG P t gs q) (hP:xw SB w gs.size t) (tJ:∀x:Addr,x.block=Wg->qR t (.cell x))
  (Jh:WG P true (Scr P ty Wg C n jd K n) F O a w) (fG:WgAt ty Wg w 0 0) (nK:co C n w) (hF:∀b,F b->b<w.heap.size/\b≠Wg/\b≠C/\¬SB b) (hO:∀b,O b->F b)
  (lW:Wg<w.heap.size) (lC:C<w.heap.size) (lS:∀b,SB b->b<w.heap.size) (hCW:C≠Wg) (sW:¬SB Wg) (sC:¬SB C) (kW:L0<=Wg) (kC:L0<=C) (kO:∀b,O b->L0<=b):
  ∃N fE a' w' sl' t' D FM q',runNT P N (crowd gs w sl) t=(.next (crowd fE w' sl'),t')/\Joined P gs.size Wg C n SB jd K L0 w fE a' w' t' D FM q':=by
 obtain⟨rk,Jh⟩:=Jh;have jN:0<gs.size:=(zi h0).1;obtain⟨B,GH⟩:=hP.past
 let D:Nat->WX:=λ_=>⟨0,0,0,.leaf,λ_=>False,λ_=>False,.bool false⟩
 have kn:∀i x,touchAt t i=some x->¬ShP Wg SB x.loc->Knows t 0 i:=λi x hx hs=>by
  rcases GH.known i x hx (hP.mem i x hx)with h|⟨⟨c,h1,h2⟩,_⟩
  ·exact h
  ·exact absurd ⟨c,h1,.inl h2⟩ hs
 have tr:Ah gs.size Wg C SB 0 D w t:=by
  refine⟨⟨λi op x hi hx hs=>?_,λk k1 kj l ⟨i,hi,_⟩=>absurd hi (aq i),λk k1 kj l ⟨i,hi,_⟩=>absurd hi (aq i),λl hs _ i x hx e=>kn i x hx (e▸hs),λl hs _ i x hx e _=>kn i x hx (e▸hs),GH.clean,λi op hi=>?_⟩,
   ⟨t.size,ji _,λi g hi hg=>?_,λi hi he=>?_⟩,λi g hg fA eH hc=>GH.over i g hg fA hc,λi x hx=>?_,hP.mem,hP.seen⟩
  ·obtain⟨c,h1,h2|h2⟩:=hs
   ·exact hP.quiet i op x hi hx ⟨c,h1,h2⟩
   ·exact absurd h1 (tJ c h2 i x (by rw[touchAt_of hi];exact hx))
  ·have:=hP.gs op (bi hi);omega
  ·obtain⟨op,ho,rfl⟩:=ao.1 hg;exact hP.gs op (bi ho)
  ·have:=lt_of_act? he;omega
  ·rcases GH.known i x hx (hP.mem i x hx)with h|⟨⟨c,h1,h2⟩,h3⟩
   ·exact .inl h
   ·exact .inr (.inl ⟨⟨c,h1,.inl h2⟩,h3⟩)
 have kQ:MS P ty Wg C n jd K (.wg n) 0 0 rk F O a w:=.wg (ji _) Jh;have eP:iO P ty gs.size Wg C n SB jd 0 gs w t D q 0:=⟨rfl,λi g hi _ hg=>hL.old i g hi hg,λi hi=>absurd hi (aq i),tr,GH.hears,λi hi=>absurd hi (aq i),hL.above,λi hi=>absurd hi (aq i),λi hi=>absurd hi (aq i),nK,jN⟩
 have S:Sep Wg C SB 0 D F O w:=⟨λi hi=>absurd hi (aq i),λi hi=>absurd hi (aq i),λi _ hi=>absurd hi (aq i),λb hb=>let⟨h1,h2,h3,h4⟩:=hF b hb;⟨h1,h2,h3,h4,λi hi=>absurd hi (aq i)⟩,λb hb=>⟨hO b hb,λi hi=>absurd hi (aq i)⟩,lW,lC,lS,hCW,sW,sC⟩
 have hm:Mo 0 (xd D) (.wg n) 0 0:=by
  have:=Mo.opn (j:=0) (D:=xd D) (tag:=.wg n) trivial (λi hi=>absurd hi (aq i)) (by simp);simpa[Vc,sumTo,mX]using this
 have hj:JT n (.wg n) 0:=Nat.zero_add n;have hk:Kept Wg C L0 w 0 D O w:=⟨λ_ _=>rfl,kW,kC,λi hi=>absurd hi (aq i),kO,rfl,rfl,rfl,id⟩
 exact qzz (o:=gs.size) jl hn _ (crowd gs w sl) t ⟨gs,w,sl,0,D,q,.wg n,0,0,rk,F,O,a,0,0,rfl,h0,kQ,eP,S,fG,hm,hj,hk,rfl⟩
end
end
section
abbrev link:Go.Conc.Lib.WgLink:={add:=53,done:=55,wait:=57,relMerge:=77,disable:=78,enable:=79,inBubble:=80,associate:=81,fatal:=82,uOr:=83,uAdd:=84,raceRead:=85,uLoad:=86,uStore:=87,disassociate:=88,semrelease:=89,acquire:=92,isAssociated:=93,uCas:=94,raceWrite:=95,semacquire:=96,orU64:=118,addU64:=119,loadU64:=120,storeU64:=121,casU64:=125,tWgP:=158,tUP:=160,tAssoc:=161,tWg:=122,tAU:=119,tU64:=117,tUint:=165,tU32:=120,tPU32:=166,tPAU:=203,tPU64:=205,tNoCopy:=114,tANoCopy:=115,tAlign64:=116}
theorem J2:Go.Conc.Lib.WgLib prog link:=
 ⟨func53,func55,func57,func77,func78,func79,func80,func81,func82,func83,func84,func85,func86,func87,func88,func89,func92,func93,func94,func95,func96,func118,func119,func120,func121,func125,underlying158,Tryz.runUnderlying158,Tryz.sizeOf158,Tryz.isAgg158,Tryz.zeroValue158,underlying160,Tryz.runUnderlying160,Tryz.sizeOf160,Tryz.isAgg160,Tryz.zeroValue160,underlying161,Tryz.runUnderlying161,Tryz.sizeOf161,Tryz.isAgg161,Tryz.zeroValue161,underlying122,Tryz.runUnderlying122,Tryz.sizeOf122,Tryz.isAgg122,Tryz.zeroValue122,underlying119,Tryz.runUnderlying119,Tryz.sizeOf119,Tryz.isAgg119,Tryz.zeroValue119,underlying117,Tryz.runUnderlying117,Tryz.sizeOf117,Tryz.isAgg117,Tryz.zeroValue117,underlying165,Tryz.runUnderlying165,Tryz.sizeOf165,Tryz.isAgg165,Tryz.zeroValue165,underlying120,Tryz.runUnderlying120,Tryz.sizeOf120,Tryz.isAgg120,Tryz.zeroValue120,underlying166,Tryz.runUnderlying166,Tryz.sizeOf166,Tryz.isAgg166,Tryz.zeroValue166,underlying203,Tryz.runUnderlying203,Tryz.sizeOf203,Tryz.isAgg203,Tryz.zeroValue203,underlying205,Tryz.runUnderlying205,Tryz.sizeOf205,Tryz.isAgg205,Tryz.zeroValue205,underlying0,Tryz.runUnderlying0,Tryz.sizeOf0,Tryz.isAgg0,Tryz.zeroValue0,underlying3,Tryz.runUnderlying3,Tryz.sizeOf3,Tryz.isAgg3,Tryz.zeroValue3,underlying4,Tryz.runUnderlying4,Tryz.sizeOf4,Tryz.isAgg4,Tryz.zeroValue4,underlying9,Tryz.runUnderlying9,Tryz.sizeOf9,Tryz.isAgg9,Tryz.zeroValue9,underlying20,Tryz.runUnderlying20,Tryz.sizeOf20,Tryz.isAgg20,Tryz.zeroValue20,underlying21,Tryz.runUnderlying21,Tryz.sizeOf21,Tryz.isAgg21,Tryz.zeroValue21,(by kernel_rfl),(by kernel_rfl)⟩
end
end Ph
namespace Sim
open Go Go.Conc
def shf (τ:Tape) (δ:Nat×Nat) (w:ag):ag:={w with tape:=τ,drawn:=w.drawn-δ.1+δ.2}
def Fit (τ:Tape) (δ:Nat×Nat) (w:ag):Prop:=δ.1<=w.drawn/\∀i q,w.drawn<=i->τ (i-δ.1+δ.2) q=w.tape i q
def Fa {α:Type} (f:ag->ag):Result α->Result α|.ok a w=>.ok a (f w)|.halt h w=>.halt h (f w)
theorem q5s (P:ax) (w:ag) (τ:Tape) (δ:Nat×Nat) (a:Addr) (u:aJ) (k:Addr) (b:Bool):(shf τ δ w).seen P a u k b=w.seen P a u k b:=rfl
theorem qsh (P:ax) (w:ag) (τ:Tape) (δ:Nat×Nat) (a:Addr) (b:Bool):(shf τ δ w).farLoad P a b=w.farLoad P a b:=rfl
theorem qy4 {A:Type} {τ:Tape} (fo:Except String A) (g g':A->Except String (ag×List Addr)) (h:∀c,∃h l,g c=.ok ({w with heap:=h},l)/\g' c=.ok (shf τ δ {w with heap:=h},l)):
  (∃e,(fo >>= g)=.error e/\(fo >>= g')=.error e)\/∃h l,(fo >>= g)=.ok ({w with heap:=h},l)/\(fo >>= g')=.ok (shf τ δ {w with heap:=h},l):=by
 cases fo with
 |error e=>exact .inl ⟨e,rfl,rfl⟩
 |ok c=>exact .inr (h c)
theorem qou (P:ax) (w:ag) (τ:Tape) (δ:Nat×Nat) (a:Addr) (u:aJ) (k:Addr) (v:aK) (b:Bool):
  (∃e,w.viewStore P a u k v b=.error e/\(shf τ δ w).viewStore P a u k v b=.error e)\/
  ∃h l,w.viewStore P a u k v b=.ok ({w with heap:=h},l)/\(shf τ δ w).viewStore P a u k v b=.ok (shf τ δ {w with heap:=h},l):=by
 unfold World.viewStore;rw[q5s];generalize w.seen P a u k b=r;generalize tight P P.depth u=t;cases t with
 |false=>exact .inl ⟨_,rfl,rfl⟩
 |true=>
  cases r with
  |error e=>exact .inl ⟨_,rfl,rfl⟩
  |ok r=>
   obtain⟨c,e,frozen,first,like,cells⟩:=r;generalize v.bytes?=vb;cases vb with
   |none=>exact .inl ⟨_,rfl,rfl⟩
   |some bs=>
    dsimp only;by_cases hb:some bs.length≠like.bytes?.map (·.length)
    ·left;refine⟨_,if_pos hb,?_⟩;exact if_pos hb
    ·rcases qy4 (cells.foldlM (init:=c) _) (λc=>pure ({w with heap:=w.heap.setIfInBounds a.block (.cells c e frozen)},cells.map λ(i,_,_)=>{block:=a.block,off:=i}))
      (λc=>pure ({shf τ δ w with heap:=w.heap.setIfInBounds a.block (.cells c e frozen)},cells.map λ(i,_,_)=>{block:=a.block,off:=i})) (w:=w) (τ:=τ) (δ:=δ) (λc=>⟨_,_,rfl,rfl⟩)with⟨e1,h1,h2⟩|⟨h,l,h1,h2⟩
     ·exact .inl ⟨e1,(if_neg hb).trans h1,(if_neg hb).trans h2⟩
     ·exact .inr ⟨h,l,(if_neg hb).trans h1,(if_neg hb).trans h2⟩
theorem qqq (P:ax) (w:ag) (τ:Tape) (δ:Nat×Nat) (a:Addr) (v:aK) (b:Bool):
  (∃e,w.farStore P a v b=.error e/\(shf τ δ w).farStore P a v b=.error e)\/
  ∃h l,w.farStore P a v b=.ok ({w with heap:=h},l)/\(shf τ δ w).farStore P a v b=.ok (shf τ δ {w with heap:=h},l):=by
 unfold World.farStore;have hh:(shf τ δ w).heap[a.block]?=w.heap[a.block]?:=rfl;have fP:(shf τ δ w).noCell a "store: no such cell" =w.noCell a "store: no such cell" :=rfl;rw[hh,fP];cases ho:w.heap[a.block]? with
 |none=>exact .inl ⟨_,rfl,rfl⟩
 |some o=>
  cases o with
  |view at_ u=>
   dsimp only;rcases qou P w τ δ at_ u a v b with⟨e,e1,e2⟩|⟨h,l,e1,e2⟩
   ·exact .inl ⟨.unsupported (.unsafePointer e),by rw[e1],by rw[e2]⟩
   ·exact .inr ⟨h,l,by rw[e1],by rw[e2]⟩
  |_=>exact .inl ⟨_,rfl,rfl⟩
theorem qtu {α:Type} (P:ax) (m:Mode) (a:Addr) (v:aK) (k:Sem α) {τ:Tape} (ih:∀(w:ag) (es:Array bm),Fit τ δ w->
  k.runT P (shf τ δ w) es=(Fa (shf τ δ) (k.runT P w es).1,(k.runT P w es).2)/\Fit τ δ (rw0 (k.runT P w es).1)) (w:ag) (es:Array bm) (hw:Fit τ δ w):
  storeT P m a v k (shf τ δ w) es=(Fa (shf τ δ) (storeT P m a v k w es).1,(storeT P m a v k w es).2)/\Fit τ δ (rw0 (storeT P m a v k w es).1):=by
 unfold storeT;have hc:(shf τ δ w).cell? a=w.cell? a:=rfl;have hf:(shf τ δ w).frozen? a=w.frozen? a:=rfl;simp only[hc,hf];cases hq:w.cell? a with
 |some v0=>
  dsimp only;cases wP:w.frozen? a with
  |true=>exact⟨rfl,hw⟩
  |false=>exact ih (w.setCell a v) _ hw
 |none=>
  dsimp only;rcases qqq P w τ δ a v (m== .atomic)with⟨e,e1,e2⟩|⟨h,l,e1,e2⟩
  ·simp only[e1,e2];exact⟨rfl,hw⟩
  ·simp only[e1,e2];exact ih {w with heap:=h} _ hw
theorem qy0 {α:Type} {τ:Tape}:∀(a:Ask α) (w:ag),Fit τ δ w->(shf τ δ w).ask a=((w.ask a).1,shf τ δ (w.ask a).2)/\Fit τ δ (w.ask a).2:=by
 intro a;induction a with
 |done a=>intro w h;exact⟨rfl,h⟩
 |ask what range k ih=>
  intro w h;unfold World.ask;dsimp only;have e:∀q,(shf τ δ w).tape (shf τ δ w).drawn q=w.tape w.drawn q:=λq=>h.2 w.drawn q (ji _);split
  ·rename_i hf;exact ih 0 w h
  ·rename_i hf;rw[e];have e2:({shf τ δ w with drawn:=(shf τ δ w).drawn+1}:ag)=shf τ δ {w with drawn:=w.drawn+1}:=by
    have:=h.1;unfold shf;simp only[World.mk.injEq,true_and,and_true];omega
   rw[e2];exact ih _ {w with drawn:=w.drawn+1} ⟨cA h.1,λi q hi=>h.2 i q (bJ hi)⟩
theorem q0m {τ:Tape} (c:Sys) (w:ag) (h:Fit τ δ w):(shf τ δ w).sys c=((w.sys c).1,shf τ δ (w.sys c).2)/\Fit τ δ (w.sys c).2:=by
 unfold World.sys;have e:bL c (shf τ δ w).os=bL c w.os:=rfl;rw[e];obtain⟨h1,h2⟩:=qy0 (bL c w.os) w h;rw[h1];generalize w.ask (bL c w.os)=r at*;obtain⟨⟨a,os⟩,w1⟩:=r;cases a<;>first|exact⟨rfl,h⟩|exact⟨rfl,h2⟩
theorem q0c {α:Type} (P:ax) {τ:Tape}:∀(s:Sem α) (w:ag) (es:Array bm),Fit τ δ w->
  s.runT P (shf τ δ w) es=(Fa (shf τ δ) (s.runT P w es).1,(s.runT P w es).2)/\Fit τ δ (rw0 (s.runT P w es).1):=by
 intro s;induction s with
 |pure a=>intro w es h;exact⟨rfl,h⟩
 |halt x=>intro w es h;exact⟨rfl,h⟩
 |load m a k ih=>
  intro w es h;unfold cj;have jL:(shf τ δ w).cell? a=w.cell? a:=rfl;simp only[jL,qsh];cases hc:w.cell? a with
  |some v=>exact ih v w _ h
  |none=>
   dsimp only;cases hf:w.farLoad P a (m== .atomic)with
   |error x=>exact⟨rfl,h⟩
   |ok r=>exact ih r.1 w _ h
 |store m a v k ih=>cases v<;>first|(intro w es h;exact⟨rfl,h⟩)|exact qtu P m a _ k ih
 |new o k ih=>intro w es h;exact ih _ {w with heap:=w.heap.push o} es h
 |shape r k ih=>intro w es h;exact ih _ w es h
 |freeze a n k ih=>
  intro w es h;have e:(shf τ δ w).freeze a n=shf τ δ (w.freeze a n):=by unfold World.freeze;simp only[shf];split<;>rfl
  have e1:(w.freeze a n).drawn=w.drawn:=by unfold World.freeze;split<;>rfl
  have e2:(w.freeze a n).tape=w.tape:=by unfold World.freeze;split<;>rfl
  have h':=ih (w.freeze a n) es ⟨by rw[e1];exact h.1,λi q hi=>by rw[e2];exact h.2 i q (by rw[e1]at hi;exact hi)⟩;unfold cj;rw[e];exact h'
 |frozen a k ih=>intro w es h;exact ih _ w es h
 |getObj r k ih=>
  intro w es h;unfold cj;have hc:(shf τ δ w).heap[r]?=w.heap[r]?:=rfl;simp only[hc];cases ho:w.heap[r]? with
  |none=>exact⟨rfl,h⟩
  |some o=>cases o<;>first|exact⟨rfl,h⟩|exact ih _ w _ h
 |setObj r o k ih=>
  intro w es h;unfold cj;have hc:(shf τ δ w).heap[r]?=w.heap[r]?:=rfl;simp only[hc];cases ho:w.heap[r]? with
  |none=>exact⟨rfl,h⟩
  |some o'=>cases o'<;>first|exact⟨rfl,h⟩|exact ih {w with heap:=w.heap.setIfInBounds r o} _ h
 |choose q k ih=>
  intro w es h;unfold cj;by_cases hf:q.forced=true
  ·simp only[hf,if_true];exact ih 0 w es h
  ·simp only[hf,aH,if_false];have e:(shf τ δ w).tape (shf τ δ w).drawn q=w.tape w.drawn q:=h.2 w.drawn _ (ji _);rw[e];have e2:({shf τ δ w with drawn:=(shf τ δ w).drawn+1}:ag)=shf τ δ {w with drawn:=w.drawn+1}:=by
    have:=h.1;unfold shf;simp only[World.mk.injEq,true_and,and_true];omega
   rw[e2];exact ih _ {w with drawn:=w.drawn+1} es ⟨cA h.1,λi q hi=>h.2 i q (bJ hi)⟩
 |sys c k ih=>
  intro w es h;unfold cj;obtain⟨h1,h2⟩:=q0m c w h;rw[h1];exact ih _ _ _ h2
 |program k ih=>intro w es h;exact ih P w es h
 |mark m k ih=>intro w es h;exact ih w _ h
theorem shr {α:Type} {P:ax} {s:Sem α} {r:Result α} {gD:Array bm} (hr:s.runT P w es=(r,gD)) {τ:Tape} (h:Fit τ δ w):s.runT P (shf τ δ w) es=(Fa (shf τ δ) r,gD)/\Fit τ δ (rw0 r):=by
 have:=q0c P s w es h;rw[hr]at this;exact this
def ShS (f:ag->cu) (w:ag):Prop:= ∀g1 w1 es,f w=.go g1 w1 es->∀τ δ,Fit τ δ w->f (shf τ δ w)=.go g1 (shf τ δ w1) es/\Fit τ δ w1
theorem ShS.go:ShS (λw=>.go g w es) w:=by
 intro g1 w1 es h;cases h;exact λτ δ h=>⟨rfl,h⟩
theorem ShS.ended {f:ag->cu} {o:Outcome} {w2:ag} (h:f w=.ended o w2 es):ShS f w:=λg1 w1 es e=>by rw[h]at e;cases e
section
variable {X:Cx} {Fb:aW->Bool} {wr:Bool} {sp:aW->Bool} {ρ:Rel}
theorem Oe (hw:WR X ρ w w') (hm:fr.mode=.run) (hk:fr.kind=.normal)
  {s s':Sem Next} (hs:SS X ρ s s' (λρ1 n n'=>NR X ρ1 n n')):ShS (λw=>aN X.P true fr cs none s w) w:=by
 have e1:(fr.kind==bN)=false:=by rw[hk];rfl
 have raised:∀vs,fr.raise vs={fr with mode:=.panicking vs}:=λvs=>by unfold cG;rw[hm]
 intro g1 w1 es hgo;rcases hr:s.runT X.P w #[]with⟨r,gM⟩
 unfold aN at hgo⊢;simp only[if_true]at hgo⊢;rw[hr]at hgo;cases r with
 |halt h wx=>
  have gT:s.run X.P w=.halt h wx:=by rw[<-bg X.P s w #[],hr]
  obtain⟨sD,-⟩:=hs.2 w w' h wx hw gT;cases h with
  |panic v=>
   simp only[aO]at hgo;cases hgo;refine λτ δ hτ=>?_;obtain⟨d3,d4⟩:=shr hr hτ;refine⟨?_,d4⟩;rw[d3];rfl
  |unsupported u=>
   cases u with
   |initOrder b=>exact sD.elim
   |_=>simp only[aO]at hgo;cases hgo
  |stuck m=>simp only[aO]at hgo;cases hgo
  |_=>exact sD.elim
 |ok n wx=>
  have gT:s.run X.P w=.ok n wx:=by rw[<-bg X.P s w #[],hr]
  obtain⟨ρ1,n',gy,gD,h1,h2,h3,h4,h5,h6,h7⟩:=hs.1 w w' n wx #[] hw gT;cases h6<;>
  ·simp only[aO]at hgo;cases hgo;refine λτ δ hτ=>?_;obtain⟨d3,d4⟩:=shr hr hτ;refine⟨?_,d4⟩;rw[d3];rfl
theorem Oi (hw:WR X ρ w w') (sV:rT ρ fr.roundOf fw.roundOf) (hk:fr.kind=.normal) (jump:Option Code) (hj:∀c,jump=some c->X.C c) (m:Bool) (fA:fr.roundOf.isSome->cs≠[]):
  ShS (λw=>vK X.P m fr cs jump w) w:=by
 rcases sV with⟨e1,e2⟩|⟨l,l',e1,e2,hl⟩
 ·unfold vK;rw[e1];dsimp only;cases jump with
  |none=>exact ShS.go
  |some c=>cases c<;>first|exact ShS.go|exact ShS.ended rfl
 ·intro g1 w1 es hgo;unfold vK at hgo⊢;rw[e1]at hgo⊢;dsimp only at hgo⊢;rcases hr:(cn l jump).runT X.P w #[]with⟨r,gM⟩
  rw[hr]at hgo;cases r with
  |halt h wx=>cases hgo
  |ok v wx=>
   cases cs with
   |nil=>exact absurd rfl (fA (by rw[e1];rfl))
   |cons c cs=>
    unfold doReturn at hgo;simp only[hk,aO]at hgo;cases hgo;refine λτ δ hτ=>?_;obtain⟨d3,d4⟩:=shr hr hτ;refine⟨?_,d4⟩;rw[d3];simp only[Fa,doReturn,hk,aO]
theorem Um (S:X.Set Fb wr sp) (hf:FR X Fb wr ρ fr fw) (hw:WR X ρ w w') (hm:fr.mode=.run) (m:Bool) (fA:fr.roundOf.isSome->cs≠[]):
  ShS (λw=>am X.P m true fr cs none w) w:=by
 obtain⟨fn,tmps,todo,defers,mode,kind,ro⟩:=fr;obtain⟨fn',mV,todo',defers',rW,kind',mR⟩:=fw;have ht:IsR X Fb wr ρ todo todo':=hf.todo;obtain rfl:fn'=fn:=hf.fn;have hk:kind=.normal:=hf.kind;have iL:∀c,codeOk X.P X.P' Fb wr c=true->X.C c:=λc h=>(S.c c).2 h;unfold am;cases ht with
 |nil=>exact Oi hw hf.round hk none (λc e=>by cases e) m fA
 | @cons i i' l l' a b=>
  cases a with
  |inBlock id=>exact ShS.go
  |inLoop c=>exact ShS.go
  |inRangeFunc r=>exact ShS.ended rfl
  |beginRound=>
   refine Oe (fr:=⟨fn',tmps,_,defers,mode,kind,ro⟩) (s':=do(mR.elim (Go.stuck "beginRound: no round") bB:Sem Unit);Pure.pure .skip) hw hm hk ?_;have sV:rT ρ ro mR:=hf.round;rcases sV with⟨rfl,rfl⟩|⟨l,l',rfl,rfl,hl⟩
   ·exact SS.dies (ja.lF (ja.stuck _))
   ·exact(SS.beginRound hl).bind λ_ _ _ _ _=>SS.pure .skip
  | @endRangeFunc l l' r=>
   intro g1 w1 es hgo;dsimp only at hgo⊢;rcases hr:(bR l).runT X.P w #[]with⟨r0,gM⟩
   rw[hr]at hgo;cases r0 with
   |halt h wx=>
    cases h with
    |panic v=>
     cases hgo;refine λτ δ hτ=>?_;obtain⟨d3,d4⟩:=shr hr hτ;refine⟨?_,d4⟩;rw[d3];rfl
    |_=>cases hgo
   |ok j wx=>
    cases hgo;refine λτ δ hτ=>?_;obtain⟨d3,d4⟩:=shr hr hτ;refine⟨?_,d4⟩;rw[d3];rfl
  | @inRegion ops td c=>
   cases td with
   |nil=>exact ShS.go
   |cons i td=>
    dsimp only;by_cases eY:((ops[i]?).map (aP · (bQ ops tmps))).getD false=true
    ·simp only[if_pos eY];cases ho:ops[i]? with
     |none=>rw[ho]at eY;cases eY
     |some o=>
      have fH:=DU c ho;have nd:∀c,o.op≠.defer c:=λc e=>by
       unfold kE at fH;rw[e]at fH;simp at fH
      have xK:(⟨fn',tmps,.inRegion ops (i::td)::l,defers,mode,kind,ro⟩:al).oper?=some o:=ho;have e:(λw=>aX X.P true (⟨fn',tmps,.inRegion ops (i::td)::l,defers,mode,kind,ro⟩:al) cs none w)=
        λw=>aN X.P true (⟨fn',tmps,.inRegion ops (i::td)::l,defers,mode,kind,ro⟩:al) cs none (cx (bC (⟨fn',tmps,.inRegion ops (i::td)::l,defers,mode,kind,ro⟩:al)) o) w:=by
       funext w;unfold aX;rw[xK];dsimp only;split
       ·rename_i e;exact absurd e (nd _)
       ·rfl
      rw[e];exact Oe hw hm hk (SS.execOp S.ok wr S.wrs o fH _ _ (hf.eval S))
    ·simp only[if_neg eY];exact ShS.go
  | @code c hc=>
   cases c with
   |skip=>exact ShS.go
   |ret=>exact Oi (fr:=⟨fn',tmps,_,defers,mode,kind,ro⟩) hw hf.round hk (some .ret) (λc e=>by cases e;exact iL _ rfl) m fA
   |seq x y=>exact ShS.go
   |cond x y z=>
    dsimp only;generalize bC _ x=v;cases v<;>first|exact ShS.go|exact ShS.ended rfl
   |block id c=>exact ShS.go
   |loop c=>exact ShS.go
   |exit id=>
    dsimp only;cases aL id l with
    |none=>exact Oi (fr:=⟨fn',tmps,_,defers,mode,kind,ro⟩) hw hf.round hk (some (.exit id)) (λc e=>by cases e;exact iL _ rfl) m fA
    |some k=>exact ShS.go
   |region id ops draw=>
    cases draw with
    |false=>exact ShS.go
    |true=>
     intro g1 w1 es hgo;dsimp only at hgo⊢;simp only[bV,aH,if_false]at hgo⊢;rcases hr:(choose (.order fn' id)).runT X.P w #[]with⟨r0,gM⟩
     have gT:(choose (.order fn' id)).run X.P w=r0:=by rw[<-bg X.P _ w #[],hr]
     rw[gT]at hgo;cases r0 with
     |halt h wx=>cases hgo
     |ok t wx=>
      cases hgo;refine λτ δ hτ=>?_;obtain⟨d3,d4⟩:=shr hr hτ;refine⟨?_,d4⟩;have:(choose (.order fn' id)).run X.P (shf τ δ w)=.ok t (shf τ δ w1):=by rw[<-bg X.P _ _ #[],d3];rfl
      rw[this]
   |rangeFunc f params assign body=>
    simp only[codeOk,bD]at hc;obtain⟨kI,kX,xW⟩:=hc;have hG:X.G fn':=hf.same;intro g1 w1 es hgo;dsimp only at hgo⊢;rcases hr:(bH fn' tmps params assign body ro).runT X.P w #[]with⟨r0,gM⟩
    have wT:=SS.enterLoop hG hf.tmps params (iL _ kX) (iL _ xW) hf.round;rw[hr]at hgo;cases r0 with
    |halt h wx=>cases hgo
    |ok p wx=>
     obtain⟨l1,mark⟩:=p;obtain⟨ρ1,p',gy,gD,h1,h2,h3,h4,h5,⟨h6,qP⟩,h7⟩:=wK wT hw hr;obtain⟨zI,kJ⟩:=p';dsimp only at h6 qP hgo;have gF:=hf.mono h3.le;have rA:FR X Fb wr ρ1 ⟨fn',tmps,.inRangeFunc l1::l,mark++defers,mode,kind,ro⟩ ⟨fn',mV,.inRangeFunc zI::l',kJ++defers',rW,kind',mR⟩:=
      ⟨gF.fn,gF.same,gF.tmps,.cons (.inRangeFunc h6) (b.mono h3.le),qP.append gF.defers,gF.mode,gF.run,gF.kind,gF.kind',gF.round⟩
     have ap:=Oe (cs:=cs) (fr:=⟨fn',tmps,.inRangeFunc l1::l,mark++defers,mode,kind,ro⟩) h2 hm hk (SS.iterate S.ok (λ_=>rfl) (λ_=>rfl) ((rA.eval S).1 f kI) h6);obtain⟨rH,k1,k2⟩:=Lg hgo;refine λτ δ hτ=>?_;obtain⟨d3,d4⟩:=shr hr hτ;obtain⟨q3,q4⟩:=ap g1 w1 rH k1 τ δ d4;refine⟨?_,q4⟩;rw[d3];dsimp only[Fa];have k3:es=seen X.P fn' gM++rH:=by cases k2;rfl
     rw[k3];exact congrArg (aO _) q3
   |_=>simp[codeOk]at hc
theorem V9 (S:X.Set Fb wr sp) (hf:FR X Fb wr ρ fr fw) (hw:WR X ρ w w') (hm:fr.mode=.returning) (m:Bool) (fA:fr.defers≠[]\/cs≠[]):
  ShS (λw=>unwind X.P m fr cs none w) w:=by
 obtain⟨fn,tmps,todo,defers,mode,kind,ro⟩:=fr;obtain⟨fn',mV,todo',defers',rW,kind',mR⟩:=fw;obtain rfl:fn'=fn:=hf.fn;obtain rfl:mode=.returning:=hm;obtain rfl:kind=.normal:=hf.kind;have hd:DsR ρ defers defers':=hf.defers;intro g1 w1 es hgo;cases hd with
 | @cons r r' l l' a b=>
  unfold unwind at hgo⊢;dsimp only at hgo⊢;rcases hr:(bO r).runT X.P w #[]with⟨r0,gM⟩
  rw[hr]at hgo;cases r0 with
  |halt h wx=>cases hgo
  |ok v wx=>
   cases hgo;refine λτ δ hτ=>?_;obtain⟨d3,d4⟩:=shr hr hτ;refine⟨?_,d4⟩;rw[d3];rfl
 |nil=>
  have fA:cs≠[]:=fA.resolve_left (λh=>h rfl);obtain⟨f,q1,q2⟩:=hf.same;have q1:X.P.funcs[fn']?=some f:=q1;unfold unwind at hgo⊢;dsimp only at hgo⊢;rw[q1]at hgo⊢;dsimp only at hgo⊢;rcases hr:(results f tmps).runT X.P w #[]with⟨r0,gM⟩
  rw[hr]at hgo;cases r0 with
  |halt h wx=>cases h<;>cases hgo
  |ok v wx=>
   cases cs with
   |nil=>exact absurd rfl fA
   |cons c cs=>
    cases hgo;refine λτ δ hτ=>?_;obtain⟨d3,d4⟩:=shr hr hτ;refine⟨?_,d4⟩;rw[d3];rfl
theorem q90 (S:X.Set Fb wr sp) (hf:FR X Fb wr ρ fr fw) (hw:WR X ρ w w') (m:Bool) (fA:cs≠[]):
  ShS (λw=>aw X.P m (G fr cs) w) w:=by
 rcases hf.run with hm|hm
 ·have e:(λw=>aw X.P m (G fr cs) w)=λw=>am X.P m true fr cs none w:=funext λw=>vP _ _ _ _ _ hm;rw[e];exact Um S hf hw hm m (λ_=>fA)
 ·have e:(λw=>aw X.P m (G fr cs) w)=λw=>unwind X.P m fr cs none w:=funext λw=>yj _ _ _ _ _ hm;rw[e];exact V9 S hf hw hm m (.inr fA)
end
def BaS (f:List al->cu):Prop:=(∃zh up1 w1 es,∀base,f base=.go (G zh (up1++base)) w1 es)\/∀base g1 w1 es,f base≠.go g1 w1 es
theorem BaS.go {f:List al->cu} (fr:al) (up:List al) (w:ag) (es:Array bm) (h:∀base,f base=.go (G fr (up++base)) w es):BaS f:=.inl ⟨fr,up,w,es,h⟩
theorem BaS.ended {f:List al->cu} (h:∀base,∃o w es,f base=.ended o w es):BaS f:=.inr λbase g1 w1 es e=>by
 obtain⟨o,w,iV,h⟩:=h base;rw[h]at e;cases e
theorem BaS.after {f:List al->cu} {gM:Array bm} (h:BaS f):BaS (λbase=>aO gM (f base)):=by
 rcases h with⟨zh,up1,w1,es,h⟩|h
 ·exact .inl ⟨zh,up1,w1,gM++es,λbase=>by show aO gM (f base)=_;rw[h base];rfl⟩
 ·refine .inr λbase g1 w1 es e=>?_;obtain⟨rH,k1,_⟩:=Lg e;exact h base g1 w1 rH k1
section
variable {X:Cx} {Fb:aW->Bool} {wr:Bool} {sp:aW->Bool} {ρ:Rel}
theorem FW (hw:WR X ρ w w') (hm:fr.mode=.run) (hk:fr.kind=.normal)
  {s s':Sem Next} (hs:SS X ρ s s' (λρ1 n n'=>NR X ρ1 n n')):BaS (λbase=>aN X.P true fr (up++base) none s w):=by
 have e1:(fr.kind==bN)=false:=by rw[hk];rfl
 rcases hr:s.runT X.P w #[]with⟨r,gM⟩
 unfold aN;simp only[if_true,hr,e1,aH,if_false];cases r with
 |halt h wx=>
  have gT:s.run X.P w=.halt h wx:=by rw[<-bg X.P s w #[],hr]
  obtain⟨sD,-⟩:=hs.2 w w' h wx hw gT;cases h with
  |panic v=>exact BaS.after (BaS.go (fr.raise [{v,recovered:=false}]) up wx #[] λ_=>rfl)
  |unsupported u=>
   cases u with
   |initOrder b=>exact sD.elim
   |_=>exact BaS.after (BaS.ended λ_=>⟨_,_,_,rfl⟩)
  |stuck m=>exact BaS.after (BaS.ended λ_=>⟨_,_,_,rfl⟩)
  |_=>exact sD.elim
 |ok n wx=>
  have gT:s.run X.P w=.ok n wx:=by rw[<-bg X.P s w #[],hr]
  obtain⟨ρ1,n',gy,gD,h1,h2,h3,h4,h5,h6,h7⟩:=hs.1 w w' n wx #[] hw gT;cases h6 with
  |value h=>exact BaS.after (BaS.go (fr.finish _) up wx #[] λ_=>rfl)
  |skip=>exact BaS.after (BaS.go (fr.finish ae) up wx #[] λ_=>rfl)
  |enter _ _=>exact BaS.after (BaS.go _ (fr::up) wx #[] λ_=>rfl)
  |round _ _ _ _ _=>exact BaS.after (BaS.go _ (fr::up) wx #[] λ_=>rfl)
theorem KM (hk:fr.kind=.normal) (jump:Option Code) (m:Bool) (fA:fr.roundOf.isSome->up≠[]):
  BaS (λbase=>vK X.P m fr (up++base) jump w):=by
 obtain⟨fn,tmps,todo,defers,mode,kind,ro⟩:=fr;obtain rfl:kind=.normal:=hk;unfold vK;cases ro with
 |none=>
  dsimp only;cases jump with
  |none=>exact BaS.go ⟨fn,tmps,todo,defers,.returning,.normal,none⟩ up w #[] λ_=>rfl
  |some c=>cases c<;>first|exact BaS.go ⟨fn,tmps,todo,defers,.returning,.normal,none⟩ up w #[] (λ_=>rfl)|exact BaS.ended λ_=>⟨_,_,_,rfl⟩
 |some l=>
  dsimp only;rcases hr:(cn l jump).runT X.P w #[]with⟨r,gM⟩
  cases r with
  |halt h wx=>exact BaS.after (BaS.ended λ_=>⟨_,_,_,rfl⟩)
  |ok v wx=>
   cases up with
   |nil=>exact absurd rfl (fA rfl)
   |cons c up=>exact BaS.after (BaS.go (c.finish v) up wx #[] λ_=>rfl)
theorem Un (S:X.Set Fb wr sp) (hf:FR X Fb wr ρ fr fw) (hw:WR X ρ w w') (hm:fr.mode=.run) (m:Bool) (fA:fr.roundOf.isSome->up≠[]):
  BaS (λbase=>am X.P m true fr (up++base) none w):=by
 obtain⟨fn,tmps,todo,defers,mode,kind,ro⟩:=fr;obtain⟨fn',mV,todo',defers',rW,kind',mR⟩:=fw;have ht:IsR X Fb wr ρ todo todo':=hf.todo;obtain rfl:fn'=fn:=hf.fn;have hk:kind=.normal:=hf.kind;have iL:∀c,codeOk X.P X.P' Fb wr c=true->X.C c:=λc h=>(S.c c).2 h;unfold am;cases ht with
 |nil=>exact KM hk none m fA
 | @cons i i' l l' a b=>
  cases a with
  |inBlock id=>exact BaS.go _ up w #[] λ_=>rfl
  |inLoop c=>exact BaS.go _ up w #[] λ_=>rfl
  |inRangeFunc r=>exact BaS.ended λ_=>⟨_,_,_,rfl⟩
  |beginRound=>
   refine FW (fr:=⟨fn',tmps,_,defers,mode,kind,ro⟩) (s':=do(mR.elim (Go.stuck "beginRound: no round") bB:Sem Unit);Pure.pure .skip) hw hm hk ?_;have sV:rT ρ ro mR:=hf.round;rcases sV with⟨rfl,rfl⟩|⟨l,l',rfl,rfl,hl⟩
   ·exact SS.dies (ja.lF (ja.stuck _))
   ·exact(SS.beginRound hl).bind λ_ _ _ _ _=>SS.pure .skip
  | @endRangeFunc l l' r=>
   dsimp only;rcases hr:(bR l).runT X.P w #[]with⟨r0,gM⟩
   cases r0 with
   |halt h wx=>
    cases h with
    |panic v=>exact BaS.after (BaS.go _ up wx #[] λ_=>rfl)
    |_=>exact BaS.after (BaS.ended λ_=>⟨_,_,_,rfl⟩)
   |ok j wx=>exact BaS.after (BaS.go _ up wx #[] λ_=>rfl)
  | @inRegion ops td c=>
   cases td with
   |nil=>exact BaS.go _ up w #[] λ_=>rfl
   |cons i td=>
    dsimp only;by_cases eY:((ops[i]?).map (aP · (bQ ops tmps))).getD false=true
    ·simp only[if_pos eY];cases ho:ops[i]? with
     |none=>rw[ho]at eY;cases eY
     |some o=>
      have fH:=DU c ho;have nd:∀c,o.op≠.defer c:=λc e=>by
       unfold kE at fH;rw[e]at fH;simp at fH
      have xK:(⟨fn',tmps,.inRegion ops (i::td)::l,defers,mode,kind,ro⟩:al).oper?=some o:=ho;have e:(λbase=>aX X.P true (⟨fn',tmps,.inRegion ops (i::td)::l,defers,mode,kind,ro⟩:al) (up++base) none w)=
        λbase=>aN X.P true (⟨fn',tmps,.inRegion ops (i::td)::l,defers,mode,kind,ro⟩:al) (up++base) none (cx (bC (⟨fn',tmps,.inRegion ops (i::td)::l,defers,mode,kind,ro⟩:al)) o) w:=by
       funext base;unfold aX;rw[xK];dsimp only;split
       ·rename_i e;exact absurd e (nd _)
       ·rfl
      rw[e];exact FW hw hm hk (SS.execOp S.ok wr S.wrs o fH _ _ (hf.eval S))
    ·simp only[if_neg eY];exact BaS.go _ up w #[] λ_=>rfl
  | @code c hc=>
   cases c with
   |skip=>exact BaS.go _ up w #[] λ_=>rfl
   |ret=>exact KM (fr:=⟨fn',tmps,_,defers,mode,kind,ro⟩) hk (some .ret) m fA
   |seq x y=>exact BaS.go _ up w #[] λ_=>rfl
   |cond x y z=>
    dsimp only;generalize bC _ x=v;cases v<;>first|exact BaS.go _ up w #[] (λ_=>rfl)|exact BaS.ended λ_=>⟨_,_,_,rfl⟩
   |block id c=>exact BaS.go _ up w #[] λ_=>rfl
   |loop c=>exact BaS.go _ up w #[] λ_=>rfl
   |exit id=>
    dsimp only;cases aL id l with
    |none=>exact KM (fr:=⟨fn',tmps,_,defers,mode,kind,ro⟩) hk (some (.exit id)) m fA
    |some k=>exact BaS.go _ up w #[] λ_=>rfl
   |region id ops draw=>
    cases draw with
    |false=>exact BaS.go _ up w #[] λ_=>rfl
    |true=>
     dsimp only;simp only[bV,aH,if_false];rcases hr:(choose (.order fn' id)).run X.P w with⟨t,wx⟩|⟨h,wx⟩
     ·exact BaS.go _ up wx #[] λ_=>rfl
     ·exact BaS.ended λ_=>⟨_,_,_,rfl⟩
   |rangeFunc f params assign body=>
    simp only[codeOk,bD]at hc;obtain⟨kI,kX,xW⟩:=hc;have hG:X.G fn':=hf.same;dsimp only;rcases hr:(bH fn' tmps params assign body ro).runT X.P w #[]with⟨r0,gM⟩
    have wT:=SS.enterLoop hG hf.tmps params (iL _ kX) (iL _ xW) hf.round;cases r0 with
    |halt h wx=>exact BaS.after (BaS.ended λ_=>⟨_,_,_,rfl⟩)
    |ok p wx=>
     obtain⟨l1,mark⟩:=p;obtain⟨ρ1,p',gy,gD,h1,h2,h3,h4,h5,⟨h6,qP⟩,h7⟩:=wK wT hw hr;obtain⟨zI,kJ⟩:=p';dsimp only at h6 qP;have gF:=hf.mono h3.le;have rA:FR X Fb wr ρ1 ⟨fn',tmps,.inRangeFunc l1::l,mark++defers,mode,kind,ro⟩ ⟨fn',mV,.inRangeFunc zI::l',kJ++defers',rW,kind',mR⟩:=
      ⟨gF.fn,gF.same,gF.tmps,.cons (.inRangeFunc h6) (b.mono h3.le),qP.append gF.defers,gF.mode,gF.run,gF.kind,gF.kind',gF.round⟩
     exact BaS.after (FW (up:=up) (fr:=⟨fn',tmps,.inRangeFunc l1::l,mark++defers,mode,kind,ro⟩) h2 hm hk (SS.iterate S.ok (λ_=>rfl) (λ_=>rfl) ((rA.eval S).1 f kI) h6))
   |_=>simp[codeOk]at hc
theorem OH (S:X.Set Fb wr sp) (hf:FR X Fb wr ρ fr fw) (hm:fr.mode=.returning) (m:Bool) (fA:fr.defers≠[]\/up≠[]):
  BaS (λbase=>unwind X.P m fr (up++base) none w):=by
 obtain⟨fn,tmps,todo,defers,mode,kind,ro⟩:=fr;obtain⟨fn',mV,todo',defers',rW,kind',mR⟩:=fw;obtain rfl:fn'=fn:=hf.fn;obtain rfl:mode=.returning:=hm;obtain rfl:kind=.normal:=hf.kind;have hd:DsR ρ defers defers':=hf.defers;cases hd with
 | @cons r r' l l' a b=>
  unfold unwind;dsimp only;rcases hr:(bO r).runT X.P w #[]with⟨r0,gM⟩
  cases r0 with
  |halt h wx=>exact BaS.after (BaS.ended λ_=>⟨_,_,_,rfl⟩)
  |ok v wx=>exact BaS.after (BaS.go _ up wx #[] λ_=>rfl)
 |nil=>
  have fA:up≠[]:=fA.resolve_left (λh=>h rfl);obtain⟨f,q1,q2⟩:=hf.same;have q1:X.P.funcs[fn']?=some f:=q1;unfold unwind;dsimp only;rw[q1];dsimp only;rcases hr:(results f tmps).runT X.P w #[]with⟨r0,gM⟩
  cases r0 with
  |halt h wx=>cases h<;>exact BaS.after (BaS.ended λ_=>⟨_,_,_,rfl⟩)
  |ok v wx=>
   cases up with
   |nil=>exact absurd rfl fA
   |cons c up=>exact BaS.after (BaS.go (c.finish v) up wx #[] λ_=>rfl)
theorem Ua (S:X.Set Fb wr sp) (hf:FR X Fb wr ρ fr fw) (hw:WR X ρ w w') (m:Bool) (hB:Bot (fr::up)) (hgo:fr.mode=.run\/fr.defers≠[]\/up≠[]):
  BaS (λbase=>aw X.P m (G fr (up++base)) w):=by
 rcases hf.run with hm|hm
 ·have e:(λbase=>aw X.P m (G fr (up++base)) w)=λbase=>am X.P m true fr (up++base) none w:=funext λbase=>vP _ _ _ _ _ hm;rw[e];refine Un S hf hw hm m λh hu=>?_;subst hu;have:=hB fr (by simp);rw[this]at h;cases h
 ·have e:(λbase=>aw X.P m (G fr (up++base)) w)=λbase=>unwind X.P m fr (up++base) none w:=funext λbase=>yj _ _ _ _ _ hm;rw[e];exact OH S hf hm m (hgo.resolve_left (by rw[hm];intro h;cases h))
end
end Sim
namespace Ph
open Go Go.Conc Go.ConcN Sim
structure Same (w wc:ag):Prop where
 heap:wc.heap=w.heap
 os:wc.os=w.os
 output:wc.output=w.output
theorem Same.refl (w:ag):Same w w:=⟨rfl,rfl,rfl⟩
section
variable {X:Cx} {Fb:aW->Bool} {SB:Blocks} {Q:al->List al->ag->Prop}
theorem Xa (rE:X.P'=X.P) (S:X.Set Fb true (λ_=>false)) (hQ:∀fr cs w,Q fr cs w->∀ch,fr.mode≠.panicking ch):∀{fr:al} {cs:List al} {w:ag},nQ X.P Q fr cs w->
  ∀{ρ:Rel} {up base:List al} {gs:Array aa} {wc:ag} {sl:Option (Nat×Nat)} {t:aD} {q:Nat->Nat},cs=up++[c0]->base≠[]->FR X Fb true ρ fr fr->FsR X Fb true ρ up up->WN X ρ w wc->Same w wc->NB w->Bot (fr::up)->
   gs[0]?=some (G fr (up++base))->bG X.P t gs q->xw SB wc gs.size t->vM SB (rng ρ) (own X ρ) wc->
   ∃(N:Nat) (fE:Array aa) (iB:al) (wX:List al) (w2 mg:ag) (sl':Option (Nat×Nat)) (t':aD) (q':Nat->Nat) (ρ2:Rel),
    runNT X.P N (crowd gs wc sl) t=(.next (crowd fE mg sl'),t')/\Q iB (wX++[c0]) w2/\fE.size=gs.size/\fE[0]?=some (G iB (wX++base))/\Same w2 mg/\FR X Fb true ρ2 iB iB/\FsR X Fb true ρ2 wX wX/\WN X ρ2 w2 mg/\ρ.le ρ2/\NB w2/\
     bG X.P t' fE q'/\xw SB mg fE.size t'/\vM SB (rng ρ2) (own X ρ2) mg:=by
 intro fr cs w h;induction h with
 | @done fr cs w hq=>
  rintro ρ up base gs wc sl t q rfl _ hf hu hw hs hn hB h0 hL hP hF;exact⟨0,gs,fr,up,w,wc,sl,t,q,ρ,rfl,hq,rfl,h0,hs,hf,hu,hw,ρ.le_refl,hn,hL,hP,hF⟩
 | @step fr cs w nf nc nw ne dS hm ih=>
  rintro ρ up base gs wc sl t q rfl kK hf hu hw hs hn hB h0 hL hP hF;have key:∀d,∃zh up1 w1 ρ1 es,aw X.P true (G fr (up++base)) (wc.at d)=.go (G zh (up1++base)) (shf wc.tape (w.drawn,d) w1) es/\
    (∃τ,(Agree w τ)/\zh=nf τ/\up1++[c0]=nc τ/\w1=nw τ)/\FR X Fb true ρ1 zh zh/\FsR X Fb true ρ1 up1 up1/\WR X ρ1 w1 (shf wc.tape (w.drawn,d) w1)/\ρ.le ρ1/\NB w1/\Bot (zh::up1)/\
    oO (rng ρ) (own X ρ) (wc.at d) (rng ρ1) (own X ρ1) (shf wc.tape (w.drawn,d) w1) es:=λd=>by
   let τ:Tape:=λi q=>if i<w.drawn then w.tape i q else wc.tape (i-w.drawn+d) q
   have ha:Agree w τ:=λi q hi=>if_pos hi;have yF:Fit wc.tape (w.drawn,d) (re w τ):=⟨ji _,λi q hi=>by
    have fI:¬i<w.drawn:=Nat.not_lt.2 hi
    exact(if_neg fI).symm⟩
   have Q9:shf wc.tape (w.drawn,d) (re w τ)=wc.at d:=by
    have h1:=hs.heap;have h2:=hs.os;have h3:=hs.output;obtain⟨hp,tp,dr,os,out⟩:=wc;simp only at h1 h2 h3;subst h1;subst h2;subst h3;simp[shf,re,World.at]
   have sS:WR X ρ (re w τ) (wc.at d):=by
    obtain⟨τ0,_,k⟩:=hw;refine⟨k.fn,k.inj,k.heap,λi q=>?_,k.sh⟩;have h1:¬w.drawn+i<w.drawn:=by omega
    have h2:w.drawn+i-w.drawn+d=d+i:=by omega
    have h3:τ (w.drawn+i) q=wc.tape (w.drawn+i-w.drawn+d) q:=if_neg h1;rw[h2]at h3;exact h3
   have hst:aw X.P true (G fr (up++[c0])) (re w τ)=.go (G (nf τ) (nc τ)) (nw τ) (ne τ):=dS τ ha;by_cases hgo:fr.mode=.run\/fr.defers≠[]\/up≠[]
   ·rcases Ua S hf sS true hB hgo with⟨zh,up1,w1,es,Bp⟩|Bp
    ·have e1:aw X.P true (G fr (up++[c0])) (re w τ)=_:=Bp [c0];rw[hst]at e1;have e2:aw X.P true (G fr (up++base)) (re w τ)=_:=Bp base;have fA:up++base≠[]:=by simp[kK]
     obtain⟨e3,jhh⟩:=q90 S (cs:=up++base) hf sS true fA _ _ _ e2 wc.tape (w.drawn,d) yF;rw[Q9]at e3;have e3:aw X.P true (G fr (up++base)) (wc.at d)=_:=e3;have out:=KX S (base:=base) (base':=base) hf hu sS hn hB hgo true true;rw[rE,e3,e2]at out;generalize hg:GStep.go (G zh (up1++base)) w1 es=s at out;cases out with
     | @nice f1 Q8 u1 MV ρ1 x1 MQ gD Qa e h1 h2 h3 h4 h5 h6 h7 h8=>
      have ig:zh=f1/\up1++base=u1++base/\w1=x1:=by
       injection hg with a b c;injection a with a1 a2;exact⟨a1,a2,b⟩
      obtain⟨rfl,sU,rfl⟩:=ig;obtain rfl:=aC sU;have QD:zh=Q8/\up1++base=MV++base/\shf wc.tape (w.drawn,d) w1=MQ/\es=Qa:=by
       injection e with a b c;injection a with a1 a2;exact⟨a1,a2,b,c⟩
      obtain⟨rfl,zK,rfl,rfl⟩:=QD;obtain rfl:=aC zK;have tT:nf τ=zh/\nc τ=up1++[c0]/\nw τ=w1:=by
       injection e1 with a b c;injection a with a1 a2;exact⟨a1,a2,b⟩
      exact⟨zh,up1,w1,ρ1,es,e3,⟨τ,ha,tT.1.symm,tT.2.1.symm,tT.2.2.symm⟩,h1,h2,h3,h4.le,h7,h8,F5 sS h4 h3 h6⟩
     |special k1 k2=>cases k2
     | @panic f1 u1 ch x1 gD h1 h2=>
      exfalso;have ig:zh={f1 with mode:=.panicking ch}/\up1++base=u1++base/\w1=x1:=by
       injection hg with a b c;injection a with a1 a2;exact⟨a1,a2,b⟩
      obtain⟨rfl,sU,rfl⟩:=ig;obtain rfl:=aC sU;have tT:nf τ={f1 with mode:=.panicking ch}/\nc τ=up1++[c0]/\nw τ=w1:=by
       injection e1 with a b c;injection a with a1 a2;exact⟨a1,a2,b⟩
      have Bh:=hm τ ha;rw[tT.1,tT.2.1,tT.2.2]at Bh;exact Ea hQ Bh trivial ⟨_,rfl⟩ (.inl ⟨_,rfl,h1,h2⟩)
     |ended=>cases hg
    ·exact absurd hst (Bp _ _ _ _)
   ·exfalso;have pK:up=[]:=aT λh=>hgo (.inr (.inr h));subst pK;obtain⟨h1,h2,h3⟩:=Lj S hf sS hn (λh=>hgo (h.imp id .inl)) hst;exact Ea hQ (hm τ ha) h1 h2 h3
  have jN:0<gs.size:=(zi h0).1;obtain⟨N,jZ,a1,d,MU,es,iZ,t1,q1,hr,hgo,hz,nJ,nW,pU,_⟩:=zG (P:=X.P) (SB:=SB) (sl:=sl) h0 rfl hL hP λd=>by
   obtain⟨zh,up1,w1,ρ1,es,e,_,_,_,_,_,_,_,ok⟩:=key d;have Ey:vM SB (rng ρ) (own X ρ) (wc.at d):=⟨hF.apart,hF.low,hF.own,hF.foot⟩
   have lG:=Ey.step ok;exact⟨_,_,es,e,ok.size,λx hx=>⟨Kh (ok.ev x hx) lG.apart lG.foot,λy hy=>(NJ (ok.ev x hx) hy).1⟩⟩
  obtain⟨zh,up1,w1,ρ1,iV,e,⟨τ,ha,rfl,IX,rfl⟩,h1,h2,h3,hle,h7,h8,ok⟩:=key d;rw[e]at hgo;have ig:G (nf τ) (up1++base)=a1/\shf wc.tape (w.drawn,d) (nw τ)=MU/\iV=es:=by
   injection hgo with a b c;exact⟨a,b,c⟩
  obtain⟨rfl,rfl,rfl⟩:=ig;have Ey:vM SB (rng ρ) (own X ρ) (wc.at d):=⟨hF.apart,hF.low,hF.own,hF.foot⟩
  obtain⟨N',fE,iB,wX,w2,mg,sl',t',q',ρ2,gT,hq,Ba,uS,oP,g1,g2,g3,g4,g5,uQ,rG,lG⟩:=ih τ ha IX.symm kK h1 h2 (WN.of h3) ⟨rfl,rfl,rfl⟩ h7 h8 nJ nW pU (Ey.step ok);exact⟨N+N',fE,iB,wX,w2,mg,sl',t',q',ρ2,runNT_trans _ hr gT,hq,Ba.trans hz,uS,oP,g1,g2,g3,Rel.le_trans hle g4,g5,uQ,rG,lG⟩
end
structure At (X:Cx) (Fb:aW->Bool) (SB:Blocks) (ρ:Rel) (gs:Array aa) (fr:al) (cs:List al) (w:ag) (t:aD) (q:Nat->Nat):Prop where
 g0:gs[0]?=some (G fr cs)
 leavers:bG X.P t gs q
 past:xw SB w gs.size t
 foot:vM SB (rng ρ) (own X ρ) w
 fr:FR X Fb true ρ fr fr
 cs:FsR X Fb true ρ cs cs
 wr:WR X ρ w w
 nb:NB w
def Runs (P:ax) (gs:Array aa) (w:ag) (sl:Option (Nat×Nat)) (t:aD) (fE:Array aa) (w':ag) (sl':Option (Nat×Nat)) (t':aD):Prop:= ∃N,runNT P N (crowd gs w sl) t=(.next (crowd fE w' sl'),t')
theorem Runs.trans {P:ax} {g1 g2 g3:Array aa} {w1 w2 w3:ag} {s1 s2 s3:Option (Nat×Nat)} {t1 t2 t3:aD} (h:Runs P g1 w1 s1 t1 g2 w2 s2 t2) (k:Runs P g2 w2 s2 t2 g3 w3 s3 t3):Runs P g1 w1 s1 t1 g3 w3 s3 t3:=by
 obtain⟨N,h⟩:=h;obtain⟨M,k⟩:=k;exact⟨N+M,runNT_trans _ h k⟩
def Ca (b:al) (k:List Item):Exit->Act->al->Prop
 |.normal,a,fr=>fr=b.at a k
 |.exit id,a,fr=>∃k',aL id k=some k'/\fr=b.at a k'
 |.ret,a,fr=>∃todo,fr={b.at a todo with mode:=.returning}
 |_,_,_=>False
def Plain (k:List Item) (Q:Exit->Act->ag->Prop):Prop:= ∀e a w,Q e a w->match e with
 |.normal|.ret=>True
 |.exit id=>∃k',aL id k=some k'
 |_=>False
def Tgt (b:al) (k:List Item) (Q:Exit->Act->ag->Prop) (fr:al) (cs:List al) (w:ag):Prop:=cs=[c0]/\∃e a,Q e a w/\Ca b k e a fr
section
variable {X:Cx} {Fb:aW->Bool} {SB:Blocks}
theorem O4 (S:X.Set Fb true (λ_=>false)) {b:al} {Q:Exit->Act->ag->Prop} (hinv:Inv X Fb true fr [c0] w) (xO:Plain k Q) (tQ:∀e a w wc,Same w wc->Q e a w->Q e a wc)
  (hp:∀τ,Agree w τ->∃e a' w',Q e a' w'/\Arrives X.P (lone fr [c0] (re w τ)) b k [c0] e a' w'):nQ X.P (Tgt b k Q) fr [c0] w:=by
 refine bar S (λfr cs w h ch=>?_) (λfr cs w τ hi ha h=>?_) hinv (λτ ha=>?_)
 ·obtain⟨_,e,a,_,hl⟩:=h;cases e with
  |normal=>rw[show fr=b.at a k from hl];intro h;cases h
  |exit id=>obtain⟨k',_,rfl⟩:=hl;intro h;cases h
  |ret=>obtain⟨todo,rfl⟩:=hl;intro h;cases h
  |_=>exact hl.elim
 ·obtain⟨h1,e,a,h2,h3⟩:=h;exact⟨h1,e,a,tQ e a (re w τ) w ⟨rfl,rfl,rfl⟩ h2,h3⟩
 ·obtain⟨e,a',w',hq,EQ⟩:=hp τ ha;have hx:=xO _ _ _ hq;have go:∀{iB:al},Ca b k e a' iB->Steps X.P (lone fr [c0] (re w τ)) (lone iB [c0] w')->xA X.P (Tgt b k Q) fr [c0] (re w τ):=λhl hs=>by
   obtain⟨n,hn⟩:=hs;exact conv S (Q:=Tgt b k Q) ⟨rfl,e,a',hq,hl⟩ n (.inl (hinv.re τ)) hn
  cases e with
  |normal=>exact go rfl EQ
  |exit id=>obtain⟨k',hk⟩:=hx;exact go ⟨k',hk,rfl⟩ (EQ k' hk)
  |ret=>obtain⟨todo,hs⟩:=EQ;exact go ⟨todo,rfl⟩ hs
  |_=>exact hx.elim
theorem piece (rE:X.P'=X.P) (S:X.Set Fb true (λ_=>false)) {gs:Array aa} {b:al} {sl:Option (Nat×Nat)} {q:Nat->Nat} {Q:Exit->Act->ag->Prop}
  (h:At X Fb SB ρ gs fr cs w t q) (gX:cs≠[]) (qJ:fr.roundOf=none) (xO:Plain k Q) (tQ:∀e a w wc,Same w wc->Q e a w->Q e a wc)
  (hp:∀τ,Agree w τ->∃e a' w',Q e a' w'/\Arrives X.P (lone fr [c0] (re w τ)) b k [c0] e a' w'):
  ∃(fE:Array aa) (e:Exit) (a':Act) (fw:al) (w':ag) (sl':Option (Nat×Nat)) (t':aD) (q':Nat->Nat) (ρ':Rel),
   Runs X.P gs w sl t fE w' sl' t'/\Q e a' w'/\Ca b k e a' fw/\fE.size=gs.size/\ρ.le ρ'/\At X Fb SB ρ' fE fw cs w' t' q':=by
 have hB:Bot [fr]:=by
  intro f hf;simp at hf;subst hf;exact qJ
 have hinv:Inv X Fb true fr [c0] w:=⟨ρ,fr,[],[],w,rfl,h.fr,.nil,h.wr,h.nb,hB⟩
 have hm:=O4 S hinv xO tQ hp;obtain⟨N,fE,iB,wX,w2,mg,sl',t',q',ρ2,hr,⟨IK,e,a',hq,hl⟩,hz,uS,hs,g1,g2,g3,g4,g5,uQ,rG,lG⟩:=Xa rE S (λfr cs w h ch=>by
   obtain⟨_,e,a,_,hl⟩:=h;cases e with
   |normal=>rw[show fr=b.at a k from hl];intro h;cases h
   |exit id=>obtain⟨k',_,rfl⟩:=hl;intro h;cases h
   |ret=>obtain⟨todo,rfl⟩:=hl;intro h;cases h
   |_=>exact hl.elim) hm (up:=[]) rfl gX h.fr .nil (WN.of h.wr) (Same.refl w) h.nb hB h.g0 h.leavers h.past h.foot
 have hu:wX=[]:=by
  have:=congrArg List.length IK;simp at this;exact List.eq_nil_of_length_eq_zero (by simpa using this)
 subst hu;refine⟨fE,e,a',iB,mg,sl',t',q',ρ2,⟨N,hr⟩,tQ _ _ _ _ hs hq,hl,hz,g4,⟨uS,uQ,rG,lG,g1,h.cs.mono g4,?_,?_⟩⟩
 ·obtain⟨τ0,_,k0⟩:=g3;refine⟨k0.fn,k0.inj,λ{a b} iw=>?_,λ_ _=>rfl,λa ha=>absurd ha (S.wrs rfl a)⟩;obtain⟨o,o',k1,k2,k3⟩:=k0.heap iw;exact⟨o,o',by rw[hs.heap];exact k1,k2,k3⟩
 ·exact g5
end
end Ph
namespace Sim
open Go Go.Conc
def stop (n:Nat):Item:=.code (.loop (.block n .skip))
mutual
def st:List Item->List Item
 |k=>stop k.length::sf k
termination_by k=>2*k.length+1
def sf:List Item->List Item
 |[]=>[]
 |.inBlock id::k=>.inBlock id::st k
 |_::k=>sf k
termination_by k=>2*k.length
end
theorem wG (k:List Item):st k=stop k.length::sf k:=by rw[st]
theorem qzb (id:Nat) (k:List Item):aL id (sf k)=(aL id k).map st:=by
 induction k with
 |nil=>rw[sf];rfl
 |cons a k ih=>
  cases a with
  |inBlock id'=>
   rw[sf];unfold aL;split
   ·rfl
   ·rw[wG];show aL id (stop k.length::sf k)=_;rw[<-ih];rfl
  |_=>
   rw[sf,ih]
   ·rfl
   ·intro _ e;cases e
theorem Lf (id:Nat) (k:List Item):aL id (st k)=(aL id k).map st:=by
 rw[wG,<-qzb];rfl
theorem Lv (id:Nat) (k:List Item):∀u,aL id (u++k)=((aL id u).map (· ++k)).or (aL id k)
 |[]=>by simp[aL]
 |a::u=>by
  cases a with
  |inBlock id'=>
   show aL id (.inBlock id'::(u++k))=_;have e:∀l,aL id (.inBlock id'::l)=if id'==id then some l else aL id l:=λl=>rfl
   rw[e,e];split
   ·simp
   ·rw[Lv id k u]
  |_=>exact Lv id k u
theorem Xf {id:Nat}:∀{k k':List Item},aL id k=some k'->k' <:+ k
 |[],_,h=>by cases h
 |a::k,k',h=>by
  have key:∀{k1},aL id k=some k1->k1 <:+ a::k:=λh=>(Xf h).trans (List.suffix_cons a k);cases a with
  |inBlock id'=>
   unfold aL at h;split at h
   ·cases h;exact List.suffix_cons _ _
   ·exact key h
  |_=>exact key h
theorem jec {k1 k2:List Item} (h1:k1 <:+ k) (h2:k2 <:+ k) (h:st k1=st k2):k1=k2:=by
 rw[wG,wG]at h;injection h with h _;injection h with h;injection h with h;injection h with h _;exact(List.suffix_of_suffix_length_le h1 h2 (Nat.le_of_eq h)).eq_of_length h
theorem W9 (P P':ax) (Fb:aW->Bool) (wr:Bool) (n:Nat):codeOk P P' Fb wr (.loop (.block n .skip))=true:=rfl
section
variable {X:Cx} {Fb:aW->Bool} {wr:Bool} {sp:aW->Bool} {ρ:Rel}
theorem IsR.sf (X:Cx) (Fb:aW->Bool) (wr:Bool) (ρ:Rel):∀k,IsR X Fb wr ρ (sf k) (sf k)
 |[]=>by rw[Sim.sf];exact .nil
 |a::k=>by
  have ih:=IsR.sf X Fb wr ρ k;cases a with
  |inBlock id=>rw[Sim.sf,wG];exact .cons (.inBlock id) (.cons (.code (W9 _ _ _ _ _)) ih)
  |_=>
   rw[Sim.sf]
   ·exact ih
   ·intro _ e;cases e
theorem IsR.st (X:Cx) (Fb:aW->Bool) (wr:Bool) (ρ:Rel) (k:List Item):IsR X Fb wr ρ (st k) (st k):=by
 rw[wG];exact .cons (.code (W9 _ _ _ _ _)) (IsR.sf X Fb wr ρ k)
end
def bare (o:Oper):Oper:={o with guard:=none}
inductive TS (k:List Item) (tm:Array aK):List Item->List Item->Prop
 |code (a:Item) (u:List Item):TS k tm (a::u++st k) (a::u++k)
 |op {ops:Array Oper} {i:Nat} {td:List Nat} {k0:List Item} {o:Oper}:k=.inRegion ops td::k0->ops[i]?=some o->aP o (bQ ops tm)=true->
   TS k tm (.inRegion #[bare o] [0]::st k) (.inRegion ops (i::td)::k0)
def wt (f:al) (t:List Item):al:={f with todo:=t}
inductive Sw (k:List Item):al->List al->al->List al->Prop
 |bot {f:al} {t t':List Item}:TS k f.tmps t t'->Sw k (wt f t) [] (wt f t') []
 |ret {f:al} {t t':List Item}:f.mode=.returning->Sw k (wt f t) [] (wt f t') []
 |above {g:al} {up:List al} {f:al} {t t':List Item}:TS k f.tmps t t'->Sw k g (up++[wt f t]) g (up++[wt f t'])
inductive Ld (k:List Item):al->al->Prop
 |land {f:al} {k':List Item}:k'=k\/(∃id,aL id k=some k')->Ld k (wt f (st k')) (wt f k')
 |late {f:al} {o:Oper}:Ld k (wt f (.inRegion #[o] []::st k)) (wt f k)
inductive Aft (k:List Item):al->List al->al->List al->Prop
 |sw {fr gr:al} {up gup:List al}:Sw k fr up gr gup->Aft k fr up gr gup
 |ld {fr gr:al}:Ld k fr gr->Aft k fr [] gr []
 |panic {fr gr:al} {ch:List PanicEntry}:fr.mode=.panicking ch->Aft k fr [] gr []
def jq (k:List Item) (base:List al) (s s':cu):Prop:=
 (∃zh up1 uT rQ w1 es,s=.go (G zh (up1++base)) w1 es/\s'=.go (G uT (rQ++base)) w1 es/\Aft k zh up1 uT rQ)\/∀g1 w1 es,s≠.go g1 w1 es
theorem jq.ended {base:List al} {o:Outcome} {s':cu}:jq k base (.ended o w es) s':=.inr λ_ _ _ e=>by cases e
theorem jq.after {base:List al} {gM:Array bm} {s s':cu} (h:jq k base s s'):jq k base (aO gM s) (aO gM s'):=by
 rcases h with⟨zh,up1,uT,rQ,w1,es,rfl,rfl,h⟩|h
 ·exact .inl ⟨zh,up1,uT,rQ,w1,gM++es,rfl,rfl,h⟩
 ·refine .inr λg1 w1 es e=>?_;obtain⟨rH,k1,_⟩:=Lg e;exact h g1 w1 rH k1
theorem jq.to {base:List al} (f:al) (u:List Item) (w:ag) (es:Array bm):jq k base (.go (G (wt f (u++st k)) base) w es) (.go (G (wt f (u++k)) base) w es):=by
 refine .inl ⟨wt f (u++st k),[],wt f (u++k),[],w,es,rfl,rfl,?_⟩;cases u with
 |nil=>exact .ld (.land (.inl rfl))
 |cons a u=>exact .sw (.bot (.code a u))
theorem jq.ret {k:List Item} {base:List al} (f:al) (t t':List Item) (hm:f.mode=.returning) (w:ag) (es:Array bm):jq k base (.go (G (wt f t) base) w es) (.go (G (wt f t') base) w es):=
 .inl ⟨wt f t,[],wt f t',[],w,es,rfl,rfl,.sw (.ret hm)⟩
theorem jq.panic {k:List Item} {base:List al} {f g:al} {ch:List PanicEntry} (hm:f.mode=.panicking ch) {w:ag} {es:Array bm}:jq k base (.go (G f base) w es) (.go (G g base) w es):=
 .inl ⟨f,[],g,[],w,es,rfl,rfl,.panic hm⟩
section
variable {X:Cx} {Fb:aW->Bool} {wr:Bool} {sp:aW->Bool} {ρ:Rel}
def UN:List Item->Prop
 |.call _ _ _ _::_=>False
 |_=>True
theorem KT {base:List al} {t:List Item} (hw:WR X ρ w w') (hm:f.mode=.run) (hk:f.kind=.normal) (hp:UN t) (IU:UN t')
  (BG:∀v,Aft k ((wt f t).finish v) [] ((wt f t').finish v) []) (Mc:TS k f.tmps t t')
  {s s':Sem Next} (hs:SS X ρ s s' (λρ1 n n'=>NR X ρ1 n n')):jq k base (aN X.P true (wt f t) base none s w) (aN X.P true (wt f t') base none s w):=by
 have e1:((wt f t).kind==bN)=false:=by show(f.kind==_)=_;rw[hk];rfl
 have e2:((wt f t').kind==bN)=false:=e1;have pO:(match(wt f t).todo with|.call _ true _ _::_=>bE|_=>.normal)=.normal:=by
  show(match t with|.call _ true _ _::_=>bE|_=>.normal)=.normal;split
  ·exact hp.elim
  ·rfl
 have xS:(match(wt f t').todo with|.call _ true _ _::_=>bE|_=>.normal)=.normal:=by
  show(match t' with|.call _ true _ _::_=>bE|_=>.normal)=.normal;split
  ·exact IU.elim
  ·rfl
 rcases hr:s.runT X.P w #[]with⟨r,gM⟩
 unfold aN;simp only[if_true,hr,e1,e2,aH,if_false,pO,xS];cases r with
 |halt h wx=>
  have gT:s.run X.P w=.halt h wx:=by rw[<-bg X.P s w #[],hr]
  obtain⟨sD,-⟩:=hs.2 w w' h wx hw gT;cases h with
  |panic v=>
   refine jq.after (jq.panic (ch:=[{v,recovered:=false}]) ?_);show((wt f t).raise _).mode=_;unfold cG;rw[show(wt f t).mode=.run from hm]
  |unsupported u=>
   cases u with
   |initOrder b=>exact sD.elim
   |_=>exact jq.after jq.ended
  |stuck m=>exact jq.after jq.ended
  |_=>exact sD.elim
 |ok n wx=>
  have gT:s.run X.P w=.ok n wx:=by rw[<-bg X.P s w #[],hr]
  obtain⟨ρ1,n',gy,gD,h1,h2,h3,h4,h5,h6,h7⟩:=hs.1 w w' n wx #[] hw gT;cases h6 with
  |value h=>exact jq.after (.inl ⟨_,[],_,[],_,_,rfl,rfl,BG _⟩)
  |skip=>exact jq.after (.inl ⟨_,[],_,[],_,_,rfl,rfl,BG _⟩)
  | @enter g gV ku _ _=>
   refine jq.after (.inl ⟨cU X.P g gV .normal,[wt f t],cU X.P g gV .normal,[wt f t'],wx,#[],?_,?_,.sw (.above (up:=[]) Mc)⟩)
   ·rcases t with _|⟨i,l⟩
    ·rfl
    ·cases i<;>first|rfl|exact hp.elim
   ·rcases t' with _|⟨i,l⟩
    ·rfl
    ·cases i<;>first|rfl|exact IU.elim
  |round _ _ _ _ _=>exact jq.after (.inl ⟨_,[wt f t],_,[wt f t'],_,_,rfl,rfl,.sw (.above (up:=[]) Mc)⟩)
end
section
variable {X:Cx} {Fb:aW->Bool} {wr:Bool} {sp:aW->Bool} {ρ:Rel}
theorem Kz (ho:ops[i]?=some o) (hr:f.roundOf=none) (base:List al) (w:ag):
  aX X.P true (wt f (.inRegion ops (i::td)::l)) base none w=aN X.P true (wt f (.inRegion ops (i::td)::l)) base none (cx f.eval o) w:=by
 have xK:(wt f (.inRegion ops (i::td)::l)).oper?=some o:=ho;have e:(wt f (.inRegion ops (i::td)::l)).eval=f.eval:=by funext x;cases x<;>rfl
 unfold aX;rw[xK];dsimp only;rw[e];have gT:(wt f (.inRegion ops (i::td)::l)).roundOf=none:=hr;rw[gT]
theorem V6 {P:ax} {m:Bool} (h:((ops[i]?).map (aP · (bQ ops f.tmps))).getD false=true) (base:List al) (w:ag):
  am P m true (wt f (.inRegion ops (i::td)::l)) base none w=aX P true (wt f (.inRegion ops (i::td)::l)) base none w:=by
 unfold am;exact if_pos h
theorem V7 {P:ax} {m:Bool} (h:¬((ops[i]?).map (aP · (bQ ops f.tmps))).getD false=true) (base:List al) (w:ag):
  am P m true (wt f (.inRegion ops (i::td)::l)) base none w=.go (G ((wt f (.inRegion ops (i::td)::l)).finish ae) base) w #[]:=by
 unfold am;exact if_neg h
theorem OW {u:List Item} (v:aK):
  Aft k ((wt f (.inRegion ops (i::td)::u++st k)).finish v) [] ((wt f (.inRegion ops (i::td)::u++k)).finish v) []:=
 .sw (.bot (f:={f with tmps:=match(ops[i]?).bind (·.dst)with
        |some d=>f.tmps.setIfInBounds d v
        |none=>f.tmps}) (.code (.inRegion ops td) u))
theorem VX {k0:List Item} (hk:k=.inRegion ops td::k0) (ho:ops[i]?=some o) (v:aK):
  Aft k ((wt f (.inRegion #[bare o] [0]::st k)).finish v) [] ((wt f (.inRegion ops (i::td)::k0)).finish v) []:=by
 have e:(wt f (.inRegion ops (i::td)::k0)).finish v=wt {f with tmps:=match o.dst with
        |some d=>f.tmps.setIfInBounds d v
        |none=>f.tmps} k:=by
  show(Frame.mk _ _ _ _ _ _ _:al)=_;subst hk;unfold wt;simp only[ho,Option.bind_some];rfl
 rw[e];exact .ld (.late (f:={f with tmps:=match o.dst with
        |some d=>f.tmps.setIfInBounds d v
        |none=>f.tmps}) (o:=bare o))
theorem q76 (S:X.Set Fb wr sp) {base:List al} {t:List Item} (Mc:TS k f.tmps t t') (hf:FR X Fb wr ρ (wt f t) fw) (hw:WR X ρ w w') (hm:f.mode=.run) (m:Bool) (qJ:f.roundOf=none):
  jq k base (am X.P m true (wt f t) base none w) (am X.P m true (wt f t') base none w):=by
 have hk:f.kind=.normal:=hf.kind;have iG:=hf.eval S;have iL:∀c,codeOk X.P X.P' Fb wr c=true->X.C c:=λc h=>(S.c c).2 h;have Mj:∀t,(wt f t).eval=f.eval:=λt=>by funext x;cases x<;>rfl
 cases Mc with
 | @op ops i td k0 o e ho eY=>
  have qY:aP (bare o) (bQ #[bare o] f.tmps)=true:=rfl;have ht:IsR X Fb wr ρ (.inRegion #[bare o] [0]::st k) fw.todo:=hf.todo;have fH:kE X.P X.P' Fb wr (bare o)=true:=by
   generalize fw.todo=tf at ht;cases ht with
   |cons a b=>cases a with
    |inRegion td c=>exact DU c (i:=0) rfl
  have ex:cx f.eval (bare o)=cx f.eval o:=rfl;have e1:am X.P m true (wt f (.inRegion #[bare o] [0]::st k)) base none w=aX X.P true (wt f (.inRegion #[bare o] [0]::st k)) base none w:=by
   unfold am;exact if_pos qY
  have e2:am X.P m true (wt f (.inRegion ops (i::td)::k0)) base none w=aX X.P true (wt f (.inRegion ops (i::td)::k0)) base none w:=by
   unfold am;refine if_pos ?_;show((ops[i]?).map (aP · (bQ ops f.tmps))).getD false=true;rw[ho];exact eY
  rw[e1,e2,Kz (o:=bare o) rfl qJ,Kz ho qJ,ex];refine KT (t:=.inRegion #[bare o] [0]::st k) (t':=.inRegion ops (i::td)::k0) hw hm hk trivial trivial (λv=>VX e ho v) (.op e ho eY) ?_ (s':=cx fw.eval (bare o));rw[<-ex,<-Mj];exact SS.execOp S.ok wr S.wrs _ fH _ _ iG
 | @code a u=>
  have ht:IsR X Fb wr ρ (a::(u++st k)) fw.todo:=hf.todo;show jq k base (am X.P m true (wt f (a::(u++st k))) base none w) (am X.P m true (wt f (a::(u++k))) base none w);generalize htd:fw.todo=tf at ht;cases ht with
  | @cons _ i' _ l' a b=>
  unfold am;cases a with
  |inBlock id=>exact jq.to f u w #[]
  | @inLoop c=>exact jq.to f (.code c::.inLoop c::u) w #[]
  |inRangeFunc r=>exact jq.ended
  |beginRound=>
   have Yo:∀t,(wt f t).roundOf=none:=λ_=>qJ;dsimp only;rw[Yo,Yo];refine KT (t:=.beginRound::u++st k) (t':=.beginRound::u++k) hw hm hk trivial trivial (λv=>?_) (.code .beginRound u) (SS.dies (ja.lF (ja.stuck _)):SS X ρ _ (do(none.elim (Go.stuck "beginRound: no round") bB:Sem Unit);Pure.pure .skip) _);cases u with
   |nil=>exact .ld (.land (f:=f) (.inl rfl))
   |cons a u=>exact .sw (.bot (f:=f) (.code a u))
  | @endRangeFunc l l' r=>
   dsimp only[wt];generalize (bR l).runT X.P w #[]=p0;obtain⟨r0,gM⟩:=p0;cases r0 with
   |halt h wx=>
    cases h with
    |panic v=>
     refine jq.after (jq.panic (ch:=[{v,recovered:=false}]) ?_);unfold cG;simp only[hm]
    |_=>exact jq.after jq.ended
   |ok j wx=>
    refine jq.after ?_;have:=jq.to (k:=k) (base:=base) f ((j.map Item.code).toList++u) wx #[];rw[aU,aU]at this;exact this
  | @inRegion ops td c=>
   cases td with
   |nil=>exact jq.to f u w #[]
   |cons i td=>
    show jq k base (am X.P m true (wt f (.inRegion ops (i::td)::(u++st k))) base none w) (am X.P m true (wt f (.inRegion ops (i::td)::(u++k))) base none w);by_cases eY:((ops[i]?).map (aP · (bQ ops f.tmps))).getD false=true
    ·rw[V6 eY,V6 eY];cases ho:ops[i]? with
     |none=>rw[ho]at eY;cases eY
     |some o=>
      have fH:=DU c ho;rw[Kz ho qJ,Kz ho qJ];refine KT (t:=.inRegion ops (i::td)::u++st k) (t':=.inRegion ops (i::td)::u++k) hw hm hk trivial trivial (λv=>OW (u:=u) v) (.code (.inRegion ops (i::td)) u) ?_ (s':=cx fw.eval o);rw[<-Mj];exact SS.execOp S.ok wr S.wrs o fH _ _ iG
    ·rw[V7 eY,V7 eY];exact .inl ⟨_,[],_,[],_,_,rfl,rfl,OW (u:=u) ae⟩
  | @code c hc=>
   cases c with
   |skip=>exact jq.to f u w #[]
   |ret=>
    dsimp only[wt];simp only[qJ,if_true];rw[<-qJ];exact jq.ret {f with mode:=.returning} (.code .ret::(u++st k)) (.code .ret::(u++k)) rfl w #[]
   |seq x y=>exact jq.to f (.code x::.code y::u) w #[]
   |cond x y z=>
    have Zp:∀t,bC {f with todo:=t} x=f.eval x:=λt=>congrFun (Mj t) x;dsimp only[wt];rw[Zp (.code (.cond x y z)::(u++st k)),Zp (.code (.cond x y z)::(u++k))];generalize f.eval x=v;cases v<;>first|exact jq.ended|exact jq.to f (.code _::u) w #[]
   |block id c=>exact jq.to f (.code c::.inBlock id::u) w #[]
   |loop c=>exact jq.to f (.code c::.inLoop c::u) w #[]
   |exit id=>
    dsimp only[wt];simp only[qJ];rw[<-qJ,Lv,Lv,Lf];cases h1:aL id u with
    |some u'=>exact jq.to f u' w #[]
    |none=>
     cases h2:aL id k with
     |some k'=>exact .inl ⟨wt f (st k'),[],wt f k',[],w,#[],rfl,rfl,.ld (.land (.inr ⟨id,h2⟩))⟩
     |none=>exact jq.ended
   |region id ops draw=>
    cases draw with
    |false=>exact jq.to f (.inRegion ops _::u) w #[]
    |true=>
     dsimp only[wt];simp only[bV,aH,if_false];rcases hr:(choose (.order f.fn id)).run X.P w with⟨t,wx⟩|⟨h,wx⟩
     ·exact jq.to f (.inRegion ops _::u) wx #[]
     ·exact jq.ended
   |rangeFunc g params assign body=>
    simp only[codeOk,bD]at hc;obtain⟨kI,kX,xW⟩:=hc;have hG:X.G f.fn:=hf.same;have hfl:rT ρ f.roundOf fw.roundOf:=hf.round;have wT:=SS.enterLoop hG (show zm X.F ρ f.tmps.toList fw.tmps.toList from hf.tmps) params (iL _ kX) (iL _ xW) hfl;dsimp only[wt];generalize hr:(bH f.fn f.tmps params assign body f.roundOf).runT X.P w #[]=p0;obtain⟨r0,gM⟩:=p0;cases r0 with
    |halt h wx=>exact jq.after jq.ended
    |ok p wx=>
     obtain⟨l1,mark⟩:=p;obtain⟨ρ1,p',gy,gD,h1,h2,h3,h4,h5,⟨h6,qP⟩,h7⟩:=wK wT hw hr;obtain⟨zI,kJ⟩:=p';dsimp only at h6 qP;have SL:EvR X.F Fb ρ1 f.eval fw.eval:=by
      have:=(hf.mono h3.le).eval S;rw[Mj]at this;exact this
     exact jq.after (KT (f:={f with defers:=mark++f.defers}) (t:=.inRangeFunc l1::u++st k) (t':=.inRangeFunc l1::u++k) h2 hm hk trivial trivial
      (λv=>.sw (.bot (f:={f with defers:=mark++f.defers}) (.code (.endRangeFunc l1) u))) (.code (.inRangeFunc l1) u) (SS.iterate S.ok (λ_=>rfl) (λ_=>rfl) (SL.1 g kI) h6))
   |_=>simp[codeOk]at hc
end
def BcS (f:List al->cu):Prop:=BaS f\/∃v w1 es,∀c base,f (c::base)=.go (G (Frame.finish c v) base) w1 es
theorem BcS.of {f:List al->cu} (h:BaS f):BcS f:=.inl h
section
variable {X:Cx} {Fb:aW->Bool} {wr:Bool} {sp:aW->Bool} {ρ:Rel}
theorem Oj (hk:fr.kind=.normal) (jump:Option Code) (m:Bool):BcS (λbase=>vK X.P m fr base jump w):=by
 cases qJ:fr.roundOf with
 |none=>exact .inl (KM (up:=[]) hk jump m (by rw[qJ];intro h;cases h))
 |some l=>
  obtain⟨fn,tmps,todo,defers,mode,kind,ro⟩:=fr;obtain rfl:kind=.normal:=hk;obtain rfl:ro=some l:=qJ;unfold vK;dsimp only;rcases hr:(cn l jump).runT X.P w #[]with⟨r,gM⟩
  cases r with
  |halt h wx=>exact .inl (BaS.after (BaS.ended λ_=>⟨_,_,_,rfl⟩))
  |ok v wx=>exact .inr ⟨v,wx,seen X.P fn gM++#[],λc base=>rfl⟩
theorem q75 (S:X.Set Fb wr sp) (hf:FR X Fb wr ρ fr fw) (hw:WR X ρ w w') (hm:fr.mode=.run) (m:Bool):
  BcS (λbase=>am X.P m true fr base none w):=by
 obtain⟨fn,tmps,todo,defers,mode,kind,ro⟩:=fr;obtain⟨fn',mV,todo',defers',rW,kind',mR⟩:=fw;have ht:IsR X Fb wr ρ todo todo':=hf.todo;obtain rfl:fn'=fn:=hf.fn;have hk:kind=.normal:=hf.kind;have iL:∀c,codeOk X.P X.P' Fb wr c=true->X.C c:=λc h=>(S.c c).2 h;unfold am;cases ht with
 |nil=>exact Oj hk none m
 | @cons i i' l l' a b=>
  cases a with
  |inBlock id=>exact BcS.of<|BaS.go _ [] w #[] λ_=>rfl
  |inLoop c=>exact BcS.of<|BaS.go _ [] w #[] λ_=>rfl
  |inRangeFunc r=>exact BcS.of<|BaS.ended λ_=>⟨_,_,_,rfl⟩
  |beginRound=>
   refine BcS.of<|FW (up:=[]) (fr:=⟨fn',tmps,_,defers,mode,kind,ro⟩) (s':=do(mR.elim (Go.stuck "beginRound: no round") bB:Sem Unit);Pure.pure .skip) hw hm hk ?_;have sV:rT ρ ro mR:=hf.round;rcases sV with⟨rfl,rfl⟩|⟨l,l',rfl,rfl,hl⟩
   ·exact SS.dies (ja.lF (ja.stuck _))
   ·exact(SS.beginRound hl).bind λ_ _ _ _ _=>SS.pure .skip
  | @endRangeFunc l l' r=>
   dsimp only;rcases hr:(bR l).runT X.P w #[]with⟨r0,gM⟩
   cases r0 with
   |halt h wx=>
    cases h with
    |panic v=>exact BcS.of<|BaS.after (BaS.go _ [] wx #[] λ_=>rfl)
    |_=>exact BcS.of<|BaS.after (BaS.ended λ_=>⟨_,_,_,rfl⟩)
   |ok j wx=>exact BcS.of<|BaS.after (BaS.go _ [] wx #[] λ_=>rfl)
  | @inRegion ops td c=>
   cases td with
   |nil=>exact BcS.of<|BaS.go _ [] w #[] λ_=>rfl
   |cons i td=>
    dsimp only;by_cases eY:((ops[i]?).map (aP · (bQ ops tmps))).getD false=true
    ·simp only[if_pos eY];cases ho:ops[i]? with
     |none=>rw[ho]at eY;cases eY
     |some o=>
      have fH:=DU c ho;have nd:∀c,o.op≠.defer c:=λc e=>by
       unfold kE at fH;rw[e]at fH;simp at fH
      have xK:(⟨fn',tmps,.inRegion ops (i::td)::l,defers,mode,kind,ro⟩:al).oper?=some o:=ho;have e:(λbase=>aX X.P true (⟨fn',tmps,.inRegion ops (i::td)::l,defers,mode,kind,ro⟩:al) base none w)=
        λbase=>aN X.P true (⟨fn',tmps,.inRegion ops (i::td)::l,defers,mode,kind,ro⟩:al) base none (cx (bC (⟨fn',tmps,.inRegion ops (i::td)::l,defers,mode,kind,ro⟩:al)) o) w:=by
       funext base;unfold aX;rw[xK];dsimp only;split
       ·rename_i e;exact absurd e (nd _)
       ·rfl
      rw[e];exact BcS.of<|FW (up:=[]) hw hm hk (SS.execOp S.ok wr S.wrs o fH _ _ (hf.eval S))
    ·simp only[if_neg eY];exact BcS.of<|BaS.go _ [] w #[] λ_=>rfl
  | @code c hc=>
   cases c with
   |skip=>exact BcS.of<|BaS.go _ [] w #[] λ_=>rfl
   |ret=>exact Oj (fr:=⟨fn',tmps,_,defers,mode,kind,ro⟩) hk (some .ret) m
   |seq x y=>exact BcS.of<|BaS.go _ [] w #[] λ_=>rfl
   |cond x y z=>
    dsimp only;generalize bC _ x=v;cases v<;>first|exact BcS.of<|BaS.go _ [] w #[] (λ_=>rfl)|exact BcS.of<|BaS.ended λ_=>⟨_,_,_,rfl⟩
   |block id c=>exact BcS.of<|BaS.go _ [] w #[] λ_=>rfl
   |loop c=>exact BcS.of<|BaS.go _ [] w #[] λ_=>rfl
   |exit id=>
    dsimp only;cases aL id l with
    |none=>exact Oj (fr:=⟨fn',tmps,_,defers,mode,kind,ro⟩) hk (some (.exit id)) m
    |some k=>exact BcS.of<|BaS.go _ [] w #[] λ_=>rfl
   |region id ops draw=>
    cases draw with
    |false=>exact BcS.of<|BaS.go _ [] w #[] λ_=>rfl
    |true=>
     dsimp only;simp only[bV,aH,if_false];rcases hr:(choose (.order fn' id)).run X.P w with⟨t,wx⟩|⟨h,wx⟩
     ·exact BcS.of<|BaS.go _ [] wx #[] λ_=>rfl
     ·exact BcS.of<|BaS.ended λ_=>⟨_,_,_,rfl⟩
   |rangeFunc f params assign body=>
    simp only[codeOk,bD]at hc;obtain⟨kI,kX,xW⟩:=hc;have hG:X.G fn':=hf.same;dsimp only;rcases hr:(bH fn' tmps params assign body ro).runT X.P w #[]with⟨r0,gM⟩
    have wT:=SS.enterLoop hG hf.tmps params (iL _ kX) (iL _ xW) hf.round;cases r0 with
    |halt h wx=>exact BcS.of<|BaS.after (BaS.ended λ_=>⟨_,_,_,rfl⟩)
    |ok p wx=>
     obtain⟨l1,mark⟩:=p;obtain⟨ρ1,p',gy,gD,h1,h2,h3,h4,h5,⟨h6,qP⟩,h7⟩:=wK wT hw hr;obtain⟨zI,kJ⟩:=p';dsimp only at h6 qP;have gF:=hf.mono h3.le;have rA:FR X Fb wr ρ1 ⟨fn',tmps,.inRangeFunc l1::l,mark++defers,mode,kind,ro⟩ ⟨fn',mV,.inRangeFunc zI::l',kJ++defers',rW,kind',mR⟩:=
      ⟨gF.fn,gF.same,gF.tmps,.cons (.inRangeFunc h6) (b.mono h3.le),qP.append gF.defers,gF.mode,gF.run,gF.kind,gF.kind',gF.round⟩
     exact BcS.of<|BaS.after (FW (up:=[]) (fr:=⟨fn',tmps,.inRangeFunc l1::l,mark++defers,mode,kind,ro⟩) h2 hm hk (SS.iterate S.ok (λ_=>rfl) (λ_=>rfl) ((rA.eval S).1 f kI) h6))
   |_=>simp[codeOk]at hc
theorem q0t (S:X.Set Fb wr sp) (hf:FR X Fb wr ρ fr fw) (hm:fr.mode=.returning) (m:Bool):BcS (λbase=>unwind X.P m fr base none w):=by
 by_cases hd:fr.defers=[]
 ·obtain⟨fn,tmps,todo,defers,mode,kind,ro⟩:=fr;obtain rfl:mode=.returning:=hm;obtain rfl:kind=.normal:=hf.kind;obtain rfl:defers=[]:=hd;obtain⟨f,q1,q2⟩:=hf.same;have q1:X.P.funcs[fn]?=some f:=q1;unfold unwind;dsimp only;rw[q1];dsimp only;rcases hr:(results f tmps).runT X.P w #[]with⟨r0,gM⟩
  cases r0 with
  |halt h wx=>cases h<;>exact .inl (BaS.after (BaS.ended λ_=>⟨_,_,_,rfl⟩))
  |ok v wx=>exact .inr ⟨v,wx,_,λc base=>rfl⟩
 ·exact .inl (OH (up:=[]) S hf hm m (.inl hd))
theorem q9z (S:X.Set Fb wr sp) (hf:FR X Fb wr ρ fr fw) (hw:WR X ρ w w') (m:Bool):BcS (λbase=>aw X.P m (G fr base) w):=by
 rcases hf.run with hm|hm
 ·have e:(λbase=>aw X.P m (G fr base) w)=λbase=>am X.P m true fr base none w:=funext λbase=>vP _ _ _ _ _ hm;rw[e];exact q75 S hf hw hm m
 ·have e:(λbase=>aw X.P m (G fr base) w)=λbase=>unwind X.P m fr base none w:=funext λbase=>yj _ _ _ _ _ hm;rw[e];exact q0t S hf hm m
theorem qu9 {t:List Item} (h:TS k f.tmps t t') (v:aK):Aft k ((wt f t).finish v) [] ((wt f t').finish v) []:=by
 cases h with
 |op e ho hw=>exact VX e ho v
 |code a u=>
  cases a with
  |inRegion ops td=>
   cases td with
   |nil=>exact .sw (.bot (f:=f) (.code (.inRegion ops []) u))
   |cons i td=>exact OW (u:=u) v
  |inRangeFunc l=>exact .sw (.bot (f:=f) (.code (.endRangeFunc l) u))
  |beginRound=>
   cases u with
   |nil=>exact .ld (.land (f:=f) (.inl rfl))
   |cons a u=>exact .sw (.bot (f:=f) (.code a u))
  |call d wrapper resume saved=>exact .sw (.bot (f:=f) (.code _ u))
  |code c=>exact .sw (.bot (f:=f) (.code (.code c) u))
  |inBlock id=>exact .sw (.bot (f:=f) (.code (.inBlock id) u))
  |inLoop c=>exact .sw (.bot (f:=f) (.code (.inLoop c) u))
  |inScope c=>exact .sw (.bot (f:=f) (.code (.inScope c) u))
  |endRangeFunc c=>exact .sw (.bot (f:=f) (.code (.endRangeFunc c) u))
  |_=>
   cases u with
   |nil=>exact .ld (.land (f:={f with tmps:=#[v]}) (.inl rfl))
   |cons a u=>exact .sw (.bot (f:={f with tmps:=#[v]}) (.code a u))
theorem q0u {base:List al} {t:List Item} (hf:FR X Fb wr ρ (wt f t) fw) (hm:f.mode=.returning) (m:Bool) (hd:f.defers≠[]):
  jq k base (unwind X.P m (wt f t) base none w) (unwind X.P m (wt f t') base none w):=by
 obtain⟨fn,tmps,todo,defers,mode,kind,ro⟩:=f;obtain rfl:mode=.returning:=hm;obtain rfl:kind=.normal:=hf.kind;have Zq:DsR ρ defers fw.defers:=hf.defers;generalize fw.defers=ds at Zq;cases Zq with
 |nil=>exact absurd rfl hd
 | @cons r r' l l' a b=>
  unfold unwind wt;dsimp only;generalize (bO r).runT X.P w #[]=p0;obtain⟨r0,gM⟩:=p0;cases r0 with
  |halt h wx=>exact jq.after jq.ended
  |ok v wx=>exact jq.after (jq.ret ⟨fn,tmps,[],_,.returning,.normal,ro⟩ t t' rfl wx #[])
theorem q91 (S:X.Set Fb wr sp) {base:List al} {gr:al} {gup:List al} (Bc:Sw k fr up gr gup) (hf:FR X Fb wr ρ fr fw) (hw:WR X ρ w w') (m:Bool) (hB:Bot (fr::up)) (hgo:fr.mode=.run\/fr.defers≠[]\/up≠[]):
  jq k base (aw X.P m (G fr (up++base)) w) (aw X.P m (G gr (gup++base)) w):=by
 have ret:∀{f:al} {t t':List Item},f.mode=.returning->FR X Fb wr ρ (wt f t) fw->f.defers≠[]->jq k base (aw X.P m (G (wt f t) base) w) (aw X.P m (G (wt f t') base) w):=λ{f t t'} hm hf hd=>by
  rw[yj _ _ _ _ _ (show(wt f t).mode=.returning from hm),yj _ _ _ _ _ (show(wt f t').mode=.returning from hm)];exact q0u hf hm m hd
 cases Bc with
 | @ret f t t' hm=>
  refine ret hm hf ?_;rcases hgo with h|h|h
  ·rw[show(wt f t).mode=.returning from hm]at h;cases h
  ·exact h
  ·exact absurd rfl h
 | @bot f t t' h=>
  rcases hf.run with hm|hm
  ·have hm:f.mode=.run:=hm;have qJ:f.roundOf=none:=hB (wt f t) (by simp);show jq k base (aw X.P m (G (wt f t) base) w) (aw X.P m (G (wt f t') base) w);rw[vP _ _ _ _ _ (show(wt f t).mode=.run from hm),vP _ _ _ _ _ (show(wt f t').mode=.run from hm)];exact q76 S h hf hw hm m qJ
  ·have hm:f.mode=.returning:=hm;refine ret hm hf ?_;rcases hgo with h|h|h
   ·rw[show(wt f t).mode=.returning from hm]at h;cases h
   ·exact h
   ·exact absurd rfl h
 | @above _ up f t t' h=>
  rw[aU,aU];have go:∀{zh:al} {up1:List al} {w1:ag} {es:Array bm},(∀base,aw X.P m (G fr (up++base)) w=.go (G zh (up1++base)) w1 es)->
    jq k base (aw X.P m (G fr (up++([wt f t]++base))) w) (aw X.P m (G fr (up++([wt f t']++base))) w):=λ{zh up1 w1 es} e=>
   .inl ⟨zh,up1++[wt f t],zh,up1++[wt f t'],w1,es,by rw[e,aU],by rw[e,aU],.sw (.above h)⟩
  by_cases hu:up=[]
  ·subst hu;rcases q9z S hf hw m with(⟨zh,up1,w1,es,e⟩|e)|⟨v,w1,es,e⟩
   ·exact go e
   ·exact .inr (e _)
   ·exact .inl ⟨_,[],_,[],w1,es,e _ _,e _ _,qu9 h v⟩
  ·have hgo:BaS (λbase=>aw X.P m (G fr (up++base)) w):=by
    rcases hf.run with hm|hm
    ·have e:(λbase=>aw X.P m (G fr (up++base)) w)=λbase=>am X.P m true fr (up++base) none w:=funext λbase=>vP _ _ _ _ _ hm;rw[e];exact Un S hf hw hm m λ_=>hu
    ·have e:(λbase=>aw X.P m (G fr (up++base)) w)=λbase=>unwind X.P m fr (up++base) none w:=funext λbase=>yj _ _ _ _ _ hm;rw[e];exact OH S hf hm m (.inr hu)
   rcases hgo with⟨zh,up1,w1,es,e⟩|e
   ·exact go e
   ·exact .inr (e _)
end
end Sim
namespace Ph
open Go Go.Conc Go.ConcN Sim
section
variable {X:Cx} {Fb:aW->Bool} {SB:Blocks} {Q:al->List al->ag->Prop}
theorem q54 {wr:Bool} {sp:aW->Bool} (S:X.Set Fb wr sp) (hf:FR X Fb wr ρ fr fw) (hw:WR X ρ w w') (m:Bool) (fA:fr.roundOf.isSome->cs≠[]) (hgo:fr.mode=.run\/fr.defers≠[]\/cs≠[]):
  ShS (λw=>aw X.P m (G fr cs) w) w:=by
 rcases hf.run with hm|hm
 ·have e:(λw=>aw X.P m (G fr cs) w)=λw=>am X.P m true fr cs none w:=funext λw=>vP _ _ _ _ _ hm;rw[e];exact Um S hf hw hm m fA
 ·have e:(λw=>aw X.P m (G fr cs) w)=λw=>unwind X.P m fr cs none w:=funext λw=>yj _ _ _ _ _ hm;rw[e];exact V9 S hf hw hm m (hgo.resolve_left (by rw[hm];intro h;cases h))
theorem qul (rE:X.P'=X.P) (S:X.Set Fb true (λ_=>false)) (hQ:∀fr cs w,Q fr cs w->∀ch,fr.mode≠.panicking ch) {base:List al} {wc:ag}
  {nf:Tape->al} {nc:Tape->List al} {nw:Tape->ag} {ne:Tape->Array bm} (dS:∀τ:Tape,(∀i q,i<w.drawn->τ i q=w.tape i q)->aw X.P true (G fr (up++[c0])) {w with tape:=τ}=.go (G (nf τ) (nc τ)) (nw τ) (ne τ))
  (hm:∀τ:Tape,(∀i q,i<w.drawn->τ i q=w.tape i q)->nQ X.P Q (nf τ) (nc τ) (nw τ))
  (hf:FR X Fb true ρ fr fr) (hu:FsR X Fb true ρ up up) (hw:WN X ρ w wc) (hs:Same w wc) (hn:NB w) (hB:Bot (fr::up)):
  (fr.mode=.run\/fr.defers≠[]\/up≠[])/\∀d,∃zh up1 w1 ρ1 es,aw X.P true (G fr (up++base)) (wc.at d)=.go (G zh (up1++base)) (shf wc.tape (w.drawn,d) w1) es/\
    (∃τ,(Agree w τ)/\zh=nf τ/\up1++[c0]=nc τ/\w1=nw τ)/\FR X Fb true ρ1 zh zh/\FsR X Fb true ρ1 up1 up1/\WR X ρ1 w1 (shf wc.tape (w.drawn,d) w1)/\ρ.le ρ1/\NB w1/\Bot (zh::up1)/\
    oO (rng ρ) (own X ρ) (wc.at d) (rng ρ1) (own X ρ1) (shf wc.tape (w.drawn,d) w1) es:=by
 have SH:fr.mode=.run\/fr.defers≠[]\/up≠[]:=by
  refine aT λhgo=>?_;have pK:up=[]:=aT λh=>hgo (.inr (.inr h));subst pK;obtain⟨τ0,Zz,k0⟩:=hw;have hst:aw X.P true (G fr [c0]) (re w τ0)=.go (G (nf τ0) (nc τ0)) (nw τ0) (ne τ0):=dS τ0 Zz;obtain⟨h1,h2,h3⟩:=Lj S hf k0 hn (λh=>hgo (h.imp id .inl)) hst;exact Ea hQ (hm τ0 Zz) h1 h2 h3
 refine⟨SH,λd=>?_⟩
 let τ:Tape:=λi q=>if i<w.drawn then w.tape i q else wc.tape (i-w.drawn+d) q
 have ha:Agree w τ:=λi q hi=>if_pos hi;have yF:Fit wc.tape (w.drawn,d) (re w τ):=⟨ji _,λi q hi=>by
  have fI:¬i<w.drawn:=Nat.not_lt.2 hi
  exact(if_neg fI).symm⟩
 have Q9:shf wc.tape (w.drawn,d) (re w τ)=wc.at d:=by
  have h1:=hs.heap;have h2:=hs.os;have h3:=hs.output;obtain⟨hp,tp,dr,os,out⟩:=wc;simp only at h1 h2 h3;subst h1;subst h2;subst h3;simp[shf,re,World.at]
 have sS:WR X ρ (re w τ) (wc.at d):=by
  obtain⟨τ0,_,k⟩:=hw;refine⟨k.fn,k.inj,k.heap,λi q=>?_,k.sh⟩;have h1:¬w.drawn+i<w.drawn:=by omega
  have h2:w.drawn+i-w.drawn+d=d+i:=by omega
  have h3:τ (w.drawn+i) q=wc.tape (w.drawn+i-w.drawn+d) q:=if_neg h1;rw[h2]at h3;exact h3
 have hst:aw X.P true (G fr (up++[c0])) (re w τ)=.go (G (nf τ) (nc τ)) (nw τ) (ne τ):=dS τ ha;by_cases hgo:fr.mode=.run\/fr.defers≠[]\/up≠[]
 ·rcases Ua S hf sS true hB hgo with⟨zh,up1,w1,es,Bp⟩|Bp
  ·have e1:aw X.P true (G fr (up++[c0])) (re w τ)=_:=Bp [c0];rw[hst]at e1;have e2:aw X.P true (G fr (up++base)) (re w τ)=_:=Bp base;have fA:fr.roundOf.isSome->up++base≠[]:=λh=>by
    have pK:up≠[]:=λhu=>by
     subst hu;rw[hB fr (by simp)]at h;cases h
    simp[pK]
   have Sj:fr.mode=.run\/fr.defers≠[]\/up++base≠[]:=hgo.imp id (λh=>h.imp id λh=>by simp[h]);obtain⟨e3,jhh⟩:=q54 S (cs:=up++base) hf sS true fA Sj _ _ _ e2 wc.tape (w.drawn,d) yF;rw[Q9]at e3;have e3:aw X.P true (G fr (up++base)) (wc.at d)=_:=e3;have out:=KX S (base:=base) (base':=base) hf hu sS hn hB hgo true true;rw[rE,e3,e2]at out;generalize hg:GStep.go (G zh (up1++base)) w1 es=s at out;cases out with
   | @nice f1 Q8 u1 MV ρ1 x1 MQ gD Qa e h1 h2 h3 h4 h5 h6 h7 h8=>
    have ig:zh=f1/\up1++base=u1++base/\w1=x1:=by
     injection hg with a b c;injection a with a1 a2;exact⟨a1,a2,b⟩
    obtain⟨rfl,sU,rfl⟩:=ig;obtain rfl:=aC sU;have QD:zh=Q8/\up1++base=MV++base/\shf wc.tape (w.drawn,d) w1=MQ/\es=Qa:=by
     injection e with a b c;injection a with a1 a2;exact⟨a1,a2,b,c⟩
    obtain⟨rfl,zK,rfl,rfl⟩:=QD;obtain rfl:=aC zK;have tT:nf τ=zh/\nc τ=up1++[c0]/\nw τ=w1:=by
     injection e1 with a b c;injection a with a1 a2;exact⟨a1,a2,b⟩
    exact⟨zh,up1,w1,ρ1,es,e3,⟨τ,ha,tT.1.symm,tT.2.1.symm,tT.2.2.symm⟩,h1,h2,h3,h4.le,h7,h8,F5 sS h4 h3 h6⟩
   |special k1 k2=>cases k2
   | @panic f1 u1 ch x1 gD h1 h2=>
    exfalso;have ig:zh={f1 with mode:=.panicking ch}/\up1++base=u1++base/\w1=x1:=by
     injection hg with a b c;injection a with a1 a2;exact⟨a1,a2,b⟩
    obtain⟨rfl,sU,rfl⟩:=ig;obtain rfl:=aC sU;have tT:nf τ={f1 with mode:=.panicking ch}/\nc τ=up1++[c0]/\nw τ=w1:=by
     injection e1 with a b c;injection a with a1 a2;exact⟨a1,a2,b⟩
    have Bh:=hm τ ha;rw[tT.1,tT.2.1,tT.2.2]at Bh;exact Ea hQ Bh trivial ⟨_,rfl⟩ (.inl ⟨_,rfl,h1,h2⟩)
   |ended=>cases hg
  ·exact absurd hst (Bp _ _ _ _)
 ·exfalso;have pK:up=[]:=aT λh=>hgo (.inr (.inr h));subst pK;obtain⟨h1,h2,h3⟩:=Lj S hf sS hn (λh=>hgo (h.imp id .inl)) hst;exact Ea hQ (hm τ ha) h1 h2 h3
inductive Du (n:Nat):List Item->Prop
 |a (r:List Item):Du n (.code (.block n .skip)::.inLoop (.block n .skip)::r)
 |b (r:List Item):Du n (.code .skip::.inBlock n::.inLoop (.block n .skip)::r)
 |c (r:List Item):Du n (.inBlock n::.inLoop (.block n .skip)::r)
 |d (r:List Item):Du n (.inLoop (.block n .skip)::r)
def Aq (k:List Item) (Q:al->List al->ag->Prop):Prop:= ∀fr cs w,Q fr cs w->cs=[c0]/\(fr.mode=.returning\/(fr.mode=.run/\∃k',fr.todo=st k'/\(k'=k\/∃id,aL id k=some k')))
theorem Aq.mode (h:Aq k Q):∀fr cs w,Q fr cs w->∀ch,fr.mode≠.panicking ch:=λfr cs w hq ch e=>by
 rcases(h _ _ _ hq).2 with h|⟨h,_⟩<;>rw[e]at h<;>cases h
theorem qvu (hQ:Aq k Q):∀{fr:al} {cs:List al} {w:ag},nQ X.P Q fr cs w->fr.mode=.run->Du n fr.todo->False:=by
 intro fr cs w h;induction h with
 | @done fr cs w hq=>
  intro hm hl;rcases(hQ _ _ _ hq).2 with h|⟨_,k',h,_⟩
  ·rw[hm]at h;cases h
  ·rw[h,wG]at hl;cases hl
 | @step fr cs w nf nc nw ne hs _ ih=>
  intro hm hl;have h1:aw X.P true (G fr cs) w=.go (G (nf w.tape) (nc w.tape)) (nw w.tape) (ne w.tape):=hs w.tape (λ_ _ _=>rfl);rw[vP _ _ _ _ _ hm]at h1;have fin:∀{t:List Item},am X.P true true fr cs none w=.go (G (wt fr t) cs) w #[]->Du n t->False:=λ{t} e wR=>by
   rw[e]at h1;injection h1 with h1 _ _;injection h1 with h1 _;refine ih w.tape (λ_ _ _=>rfl) ?_ ?_
   ·rw[<-h1];exact hm
   ·rw[<-h1];exact wR
  obtain⟨fn,tmps,todo,defers,mode,kind,ro⟩:=fr;change Du n todo at hl;cases hl with
  |a r=>exact fin rfl (.b r)
  |b r=>exact fin rfl (.c r)
  |c r=>exact fin rfl (.d r)
  |d r=>exact fin rfl (.a r)
theorem VJ (hQ:Aq k Q) {k':List Item} (h:nQ X.P Q (wt f (st k')) cs w) (hm:f.mode=.run):Q (wt f (st k')) cs w:=by
 generalize tJ:wt f (st k')=fr at h;cases h with
 |done hq=>exact hq
 |step nf nc nw ne hs hn=>
  exfalso;have h1:aw X.P true (G fr cs) w=.go (G (nf w.tape) (nc w.tape)) (nw w.tape) (ne w.tape):=hs w.tape (λ_ _ _=>rfl);subst tJ;rw[vP _ _ _ _ _ (show(wt f (st k')).mode=.run from hm),wG]at h1;have e:am X.P true true (wt f (stop k'.length::sf k')) cs none w=.go (G (wt f (.code (.block k'.length .skip)::.inLoop (.block k'.length .skip)::sf k')) cs) w #[]:=rfl;rw[e]at h1;injection h1 with h1 _ _;injection h1 with h1 _;refine qvu hQ (n:=k'.length) (hn w.tape (λ_ _ _=>rfl)) ?_ ?_
  ·rw[<-h1];exact hm
  ·rw[<-h1];exact .a _
theorem qzp (hQ:Aq k Q) (h:nQ X.P Q (wt f (.inRegion #[o] []::st k)) cs w) (hm:f.mode=.run):Q (wt f (st k)) cs w:=by
 generalize tJ:wt f (.inRegion #[o] []::st k)=fr at h;cases h with
 |done hq=>
  exfalso;subst tJ;rcases(hQ _ _ _ hq).2 with h|⟨_,k',h,_⟩
  ·have h:f.mode=.returning:=h;rw[hm]at h;cases h
  ·have h:Item.inRegion #[o] []::st k=st k':=h;rw[wG k']at h;injection h with h _;cases h
 |step nf nc nw ne hs hn=>
  have h1:aw X.P true (G fr cs) w=.go (G (nf w.tape) (nc w.tape)) (nw w.tape) (ne w.tape):=hs w.tape (λ_ _ _=>rfl);subst tJ;rw[vP _ _ _ _ _ (show(wt f (.inRegion #[o] []::st k)).mode=.run from hm)]at h1;have e:am X.P true true (wt f (.inRegion #[o] []::st k)) cs none w=.go (G (wt f (st k)) cs) w #[]:=rfl;rw[e]at h1;injection h1 with h1 h2 _;injection h1 with h1 h3;have:=hn w.tape (λ_ _ _=>rfl);rw[<-h1,<-h2,<-h3]at this;exact VJ hQ this hm
end
end Ph
end Go.Proofs.YtkpekiajdlolnabGreat
