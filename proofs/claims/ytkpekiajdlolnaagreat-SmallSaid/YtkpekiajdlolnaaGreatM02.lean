/- PROVED: part 2 of the claim's ground. Conditions: those that each theorem names. -/
import Derived.Test.YtkpekiajdlolnaaGreatM01
import Derived.Conc.WgGenN3
import Derived.Conc.CrowdStepW
import Derived.Conc.CrowdStepC2
import Derived.Test.YtkpekiajdlolnaaGreatChecked
set_option linter.unusedVariables false
set_option linter.unusedSimpArgs false
set_option maxRecDepth 100000
set_option maxHeartbeats 16000000
variable{A:Go.Goroutine->Go.World->Prop} {B Wg i j n r:Nat} {a' g g':Go.Goroutine} {cs up:List Go.Frame} {e:Go.Event} {es:Array Go.Event} {f fr eH:Go.Frame} {fn:Go.FuncId} {k l t':List Go.Item} {o:Go.Oper} {ops:Array Go.Oper} {t:Go.Trace} {td:List Nat} {w w':Go.World} {δ:Nat×Nat} {ρ:Go.Proofs.YtkpekiajdlolnaaGreat.Sim.Rel}
open Go.Proofs.Tryz
open Go renaming Goroutine→aa,undef→ae,World→ag,Frame→ao,stepG→ay,Program→az,deafBehind→aA,Trace→aG,TypeId→aM,Value→aN,exitTo→aO,FuncId→bd,Event→bq,HappensBefore→bG,yielded→bQ,GStep→cn,execOp→co,setCell_eq_setRow→cq
open Go.Conc renaming stepG_region_end→ac,stepG_seq→ah,mem_ofEvents→aj,stepG_skip→aJ,aside_setCell→aL,getElem?_append_cases→aW,stepG_ret'→aZ,runT_crowd_go→br,Deaf_other→bz,Leavers→bH,woken_quitsD→bJ,stepG_load_atomic→bP,touch_of→bZ,ofEvent_cell0→cj
open Go.MemAct renaming ofEvent→ai,touch?→aP
open Go.ConcN renaming upd_same→am,upd_ne→aC,get_map_set→bo,WgLive→bu,get_map_set_same→bB,PayAt→cg
open Go.stepG renaming exec→aq,apply→aQ,oper→bg
open Option renaming map_eq_some_iff→au,getD_some→bU,map_some→bY
open Nat renaming not_lt_zero→aw,eq_zero_or_pos→aU,le_of_lt→bK,le_succ_of_le→cr,le_of_not_lt→cx,lt_irrefl→cB,lt_or_ge→cH
open Go.MemOp renaming ofEvents→ax
open Go.Conc.Goes renaming cases→aD,stop→aH,step→cw
open Option.some renaming injEq→aE
open List renaming append_cancel_right→aF,append_assoc→aY,mem_toArray→bh,mem_singleton→bi
open Array renaming getElem?_eq_getElem→aI,mem_of_getElem?→bm,getElem?_push_lt→bw,getElem?_map→bL,mem_append→bX
open Bool renaming false_eq_true→aK,and_eq_true→bE,not_true→bT
open Go.GStep renaming after→aR
open Go.Region renaming wanted→aS
open Prod.Lex renaming right→aV,left→bk
open Classical renaming byContradiction→aX
open Go.Sem renaming runT_fst→bj,runT→ce
open Go.ConcN.RW renaming refl→bp
open Go.Instr renaming beginRound→bC,enterLoop→bI,takeDeferred→bO,endLoop→bR,endRound→cf
open Go.Frame renaming eval→bD,raise→cz,enter→cM
open Go.CallKind renaming wrapped→bF,early→bN
open Go.Kernel renaming perform→bM
open Go.Trace renaming g?→bV
namespace Go.Proofs.YtkpekiajdlolnaaGreat
namespace Ph
section
open Go Go.Conc Go.ConcN Go.RowKit Go.Conc.Lib Go.ConcR.Gen Go.ConcN.Gen Sim
open Go.ConcR (KK wgBlock WgAt stA smA rd wr mk DC0)
section
variable {L:WgLink}
structure RM (ty:aM) (Wg:Nat) (F:Blocks) (w w1:ag):Prop where
 ext:Ext F w w1
 live:bu ty Wg w->bu ty Wg w1
theorem qa {ty:aM} {F:Blocks} {w1:ag} (h:bu ty Wg w) (r:RM ty Wg F w w1):bu ty Wg w1:=r.live h
theorem xh {ty:aM} {F:Blocks} (a b c:ag) (h:RM ty Wg F a b) (k:RM ty Wg F b c):RM ty Wg F a c:=⟨h.ext.trans k.ext,k.live∘h.live⟩
section
variable (P:az) (ty:aM) (Wg:Nat) (F:Blocks)
def MG (Stop:aa->ag->Prop) (g:aa) (w:ag):Prop:= ∃m,Goes P true (RM ty Wg F) DC0 Stop m g w
def iH (m:Mark) (K:aa->ag->Prop) (g:aa) (w:ag):Prop:=
 g.status=.running/\∃g',ay P true g w=.go g' w #[mk m]/\K g' w
def tT (K:aa->ag->Prop) (g:aa) (w:ag):Prop:=
 g.status=.running/\∀v:Nat,v<2147483647->WgAt ty Wg w (v*KK) 0->
  ∃g',ay P true g w=.go g' (w.setCell (stA Wg) (.int .u64 ((v+1)*KK))) #[rd (stA Wg),wr (stA Wg)]/\
   ((v=0/\MG P ty Wg F (iH P (.read (smA Wg)) (MG P ty Wg F (iH P .enable K))) g' (w.setCell (stA Wg) (.int .u64 ((v+1)*KK))))\/
    (v≠0/\MG P ty Wg F (iH P .enable K) g' (w.setCell (stA Wg) (.int .u64 ((v+1)*KK)))))
end
section
variable (P:az) (ty:aM) (Wg:Nat) (F:Blocks)
def Ai (K:aa->ag->Prop):aa->ag->Prop:=MG P ty Wg F (iH P .enable (MG P ty Wg F (iH P (.acquire (stA Wg)) K)))
def Aj (K:aa->ag->Prop) (g:aa) (w:ag):Prop:=
 g.status=.running/\(WgAt ty Wg w 0 0->∃g',ay P true g w=.go g' w #[rd (stA Wg)]/\Ai P ty Wg F K g' w)
def vB (K:aa->ag->Prop) (g:aa) (w:ag):Prop:=
 g.status=.running/\g.offers=none/\((∃st,WgAt ty Wg w st 0)->ay P true g w=.go {g with status:=.blocked} w #[])/\
  (WgAt ty Wg w 0 1->∃g',ay P true g w=.go g' (w.setCell (smA Wg) (.int .u32 0)) (semEvents (smA Wg))/\MG P ty Wg F (Aj P ty Wg F K) g' (w.setCell (smA Wg) (.int .u32 0)))
def Ak (A:aa->ag->Prop) (K:aa->ag->Prop) (vs:Nat) (g:aa) (w:ag):Prop:=
 g.status=.running/\∀v:Nat,v<2147483648->WgAt ty Wg w (v*KK) 0->
  (v=vs->∃g',ay P true g w=.go g' (w.setCell (stA Wg) (.int .u64 (v*KK+1))) #[rd (stA Wg),wr (stA Wg)]/\MG P ty Wg F (iH P (.write (smA Wg)) (MG P ty Wg F (vB P ty Wg F K))) g' (w.setCell (stA Wg) (.int .u64 (v*KK+1))))/\
  (v≠vs->∃g',ay P true g w=.go g' w #[rd (stA Wg)]/\MG P ty Wg F A g' w)
def oN (A:aa->ag->Prop) (K:aa->ag->Prop) (g:aa) (w:ag):Prop:=
 g.status=.running/\∀v:Nat,v<2147483648->WgAt ty Wg w (v*KK) 0->∃g',ay P true g w=.go g' w #[rd (stA Wg)]/\
  (v=0->Ai P ty Wg F K g' w)/\(v≠0->MG P ty Wg F (Ak P ty Wg F A K v) g' w)
end
def Anch (L:WgLink) (Wg:Nat) (c:ao) (cs:List ao) (g:aa) (w:ag):Prop:=
 ∃T:Array aN,g=G ((base L.wait).at ⟨T,[]⟩ [.code (L7 L),.inLoop (L7 L),.inBlock 0]) (c::cs)/\T.size=84/\T[0]?=some (.pointer (some ⟨Wg,0,none⟩))/\bu L.tWg Wg w
section
variable {P:az} {Wg:Nat} {F:Blocks} {b₀:ao} {a₀:Act} {ops₀:Array Oper} {i₀:Nat} {rest₀:List Nat} {k₀:List Item} {cs:List ao}
theorem add1 (H:WgLib P L) {K:aa->ag->Prop} {mT:Nat}
  (hT:∀w,bu L.tWg Wg w->Goes P true (RM L.tWg Wg F) DC0 K mT (G (b₀.at (a₀.put ((ops₀[i₀]?).bind (·.dst)) (.tuple #[])) (.inRegion ops₀ rest₀::k₀)) cs) w)
  (w:ag) (hF:bu L.tWg Wg w):
  MG P L.tWg Wg F (iH P .disable (MG P L.tWg Wg F (tT P L.tWg Wg F (MG P L.tWg Wg F K))))
   (G ((base L.add).at ⟨#[.pointer (some ⟨Wg,0,none⟩),.int .i64 1,ae,ae,ae,ae,ae,ae,ae,ae,ae,ae,ae,ae,ae,ae,ae,ae,ae,ae,ae,ae,ae,ae,ae,ae,ae,ae,ae,ae,ae,ae,ae,ae,ae,ae,ae,ae,ae,ae,ae,ae,ae,ae,ae,ae,ae,ae,ae,ae,ae,ae,ae,ae,ae,ae,ae,ae,ae,ae,ae,ae,ae,ae,ae,ae,ae,ae,ae,ae,ae,ae,ae,ae,ae,ae,ae,ae,ae,ae,ae,ae,ae,ae,ae,ae,ae,ae,ae,ae,ae,ae,ae,ae,ae,ae,ae,ae,ae,ae,ae,ae,ae,ae,ae,ae,ae,ae,ae,ae,ae,ae,ae,ae,ae,ae,ae],[]⟩ [.code (body_add L)]) (b₀.at a₀ (.inRegion ops₀ (i₀::rest₀)::k₀)::cs)) w:=by
 lib_facts
 simp only[body_add,addFn,bU];refine⟨40,?_⟩
 u_c ah qa hF
 u_cond true qa hF
 u_c ah qa hF
 u_c ah qa hF
 u_reg qa hF
 u_op qa hF
 u_op qa hF
 u_c ac qa hF
 u_cond false qa hF
 u_c aJ qa hF
 u_c ah qa hF
 u_reg qa hF
 refine aH (λw1 h1=>?_);replace hF:=qa hF h1;clear h1;refine⟨rfl,_,stepG_mark0 .disable (by simp) rfl rfl (by k_ne) rfl H.f_disable (x_disable_n L) (x_disable_b L) (x_disable_x L) (x_disable_f L),60,?_⟩
 walk_nrm
 u_c ac qa hF
 u_reg qa hF
 u_defer qa hF
 u_c ac qa hF
 u_c ah qa hF
 u_reg qa hF
 u_op qa hF
 u_c ac qa hF
 u_c ah qa hF
 u_c ah qa hF
 u_reg qa hF
 u_bub qa hF
 u_c ac qa hF
 u_cond false qa hF
 u_c aJ qa hF
 u_c ah qa hF
 u_reg qa hF
 u_op qa hF
 u_op qa hF
 u_op qa hF
 u_op qa hF
 u_op qa hF
 u_op qa hF
 u_call H.f_uAdd (nm_uAdd L) uAddFn qa hF
 u_c ah qa hF
 u_reg qa hF
 u_op qa hF
 u_c ac qa hF
 u_c ah qa hF
 u_reg qa hF
 u_op qa hF
 u_op qa hF
 u_op qa hF
 u_op qa hF
 refine aH (λw2 h2=>?_);replace hF:=qa hF h2;clear h2;refine⟨rfl,λv hv hw=>?_⟩;rcases aU v with rfl|hvp
 ·replace hw:WgAt L.tWg Wg w2 0 0:=by simpa using hw
  have z:(((0:Nat):Int)+1)*KK=KK:=by simp
  rw[z];have e0:IntKind.u64.wrap (0+4294967296)=KK:=by decide
  refine⟨_,(stepG_add_atomic rfl rfl (by k_ne) rfl H.f_addU64 (x_addU64_n L) (x_addU64_b L) (x_addU64_x L) .u64 (x_addU64_f L) rfl rfl hw.cellSt (hw.thaw 0)).trans (by rw[e0];rfl),.inl ⟨rfl,120,?_⟩⟩;replace hF:bu L.tWg Wg (w2.setCell (stA Wg) (.int .u64 KK)):=⟨_,_,hw.setSt _⟩
  clear hw;simp only[KK]at hF⊢
  walk_nrm
  u_op qa hF
  u_c ac qa hF
  u_c aZ qa hF
  u_leave1 H.f_uAdd qa hF
  u_op qa hF
  u_c ac qa hF
  u_c ah qa hF
  u_c ah qa hF
  u_reg qa hF
  u_op qa hF
  u_op qa hF
  u_op qa hF
  u_op qa hF
  u_skip qa hF
  u_skip qa hF
  u_op qa hF
  u_c ac qa hF
  u_cond false qa hF
  u_c aJ qa hF
  u_c ah qa hF
  u_reg qa hF
  u_op qa hF
  u_op qa hF
  u_op qa hF
  u_op qa hF
  u_c ac qa hF
  u_c ah qa hF
  u_reg qa hF
  u_op qa hF
  u_op qa hF
  u_op qa hF
  u_op qa hF
  u_c ac qa hF
  u_c ah qa hF
  u_c ah qa hF
  u_reg qa hF
  u_op qa hF
  u_op qa hF
  u_op qa hF
  u_op qa hF
  u_op qa hF
  u_op qa hF
  u_op qa hF
  u_op qa hF
  u_op qa hF
  u_op qa hF
  u_c ac qa hF
  u_cond true qa hF
  u_reg qa hF
  u_op qa hF
  u_op qa hF
  u_op qa hF
  u_conv H.underlying_tPU32 H.room_tU32 (WgLive.cell1 hF).choose_spec qa hF
  refine aH (λw3 h3=>?_);replace hF:=qa hF h3;clear h3;refine⟨rfl,_,stepG_markAt .read (by simp) rfl rfl (by k_ne) rfl H.f_raceRead (x_raceRead_n L) (x_raceRead_b L) (x_raceRead_x L) (x_raceRead_f L) (ad:=⟨Wg,1,none⟩) (by simp[Act.eval]),120,?_⟩
  walk_nrm
  u_c ac qa hF
  u_c ah qa hF
  u_c ah qa hF
  u_reg qa hF
  u_op qa hF
  u_op qa hF
  u_c ac qa hF
  u_cond false qa hF
  u_c aJ qa hF
  u_c ah qa hF
  u_c ah qa hF
  u_reg qa hF
  u_op qa hF
  u_op qa hF
  u_op qa hF
  u_skip qa hF
  u_skip qa hF
  u_op qa hF
  u_op qa hF
  u_skip qa hF
  u_skip qa hF
  u_skip qa hF
  u_skip qa hF
  u_op qa hF
  u_c ac qa hF
  u_cond false qa hF
  u_c aJ qa hF
  u_c ah qa hF
  u_c ah qa hF
  u_reg qa hF
  u_op qa hF
  u_op qa hF
  u_op qa hF
  u_skip qa hF
  u_skip qa hF
  u_op qa hF
  u_c ac qa hF
  u_cond true qa hF
  u_c aZ qa hF
  refine aH (λwq hq=>?_);replace hF:=qa hF hq;clear hq;refine⟨rfl,_,stepG_unwind_entry (v:=.tuple #[]) (evs:=#[mk .enable]) rfl H.f_enable (x_enable_n L) (x_enable_b L) (x_enable_x L) (x_enable_f L) (by simp[Extern.Race.none_]) (by simp[mk]) (by simp[mk]),?_⟩;refine⟨mT+1,?_⟩;exact cw rfl (λwq hq=>by
   refine goes_leave0 rfl rfl H.f_add rfl ⟨by u_nil,?_⟩
   exact hT _ (qa hF hq))
 ·obtain⟨V,hV⟩:∃V:Int,V=(v:Int)+1:=⟨_,rfl⟩
  obtain⟨S,hS⟩:∃S:Int,S=V*KK:=⟨_,rfl⟩
  have eS:IntKind.u64.wrap ((v:Int)*KK+4294967296)=S:=by rw[IntKind.wrap_u64,hS,hV];simp only[KK];omega
  rw[<-hV,<-hS];have a1:S/4294967296=V:=by rw[hS];simp only[KK];omega
  have b1:bits .and .u64 S 2147483648=0:=by rw[hS,hV];have:=st_flag (v+1) 0 (by omega) (by omega);simpa[KK]using this
  have b2:bits .and .u64 S 2147483647=0:=by rw[hS,hV];have:=st_waiters (v+1) 0 (by omega) (by omega);simpa[KK]using this
  have c1:IntKind.i32.wrap V=V:=by rw[IntKind.wrap_i32];omega
  have hV1:1<V:=by omega
  have hV2:V<2147483648:=by omega
  have q1:(V==1)=false:=by simp;omega
  have q2:decide (V=1)=false:=xdf (by omega);have q3:decide (V<0)=false:=xdf (by omega);have q4:decide (0<V)=true:=xdt (by omega);have q5:(V==0)=false:=by simp;omega
  have q6:decide (V=0)=false:=xdf (by omega);refine⟨_,(stepG_add_atomic rfl rfl (by k_ne) rfl H.f_addU64 (x_addU64_n L) (x_addU64_b L) (x_addU64_x L) .u64 (x_addU64_f L) rfl rfl hw.cellSt (hw.thaw 0)).trans (by rw[eS];rfl),.inr ⟨by omega,120,?_⟩⟩;replace hF:bu L.tWg Wg (w2.setCell (stA Wg) (.int .u64 S)):=⟨_,_,hw.setSt _⟩
  clear hw hS hV eS
  walk_nrm
  u_op qa hF
  u_c ac qa hF
  u_c aZ qa hF
  u_leave1 H.f_uAdd qa hF
  u_op qa hF
  u_c ac qa hF
  u_c ah qa hF
  u_c ah qa hF
  u_reg qa hF
  u_op qa hF
  u_op qa hF
  u_op qa hF
  u_op qa hF
  u_skip qa hF
  u_skip qa hF
  u_op qa hF
  u_c ac qa hF
  u_cnd false qa hF
  u_c aJ qa hF
  u_c ah qa hF
  u_reg qa hF
  u_op qa hF
  u_op qa hF
  u_op qa hF
  u_op qa hF
  u_c ac qa hF
  u_c ah qa hF
  u_reg qa hF
  u_op qa hF
  u_op qa hF
  u_op qa hF
  u_op qa hF
  u_c ac qa hF
  u_c ah qa hF
  u_c ah qa hF
  u_reg qa hF
  u_op qa hF
  u_op qa hF
  u_op qa hF
  u_op qa hF
  u_op qa hF
  u_op qa hF
  u_op qa hF
  u_op qa hF
  u_op qa hF
  u_op qa hF
  u_c ac qa hF
  u_cnd false qa hF
  u_c aJ qa hF
  u_c ah qa hF
  u_c ah qa hF
  u_reg qa hF
  u_op qa hF
  u_op qa hF
  u_c ac qa hF
  u_cnd false qa hF
  u_c aJ qa hF
  u_c ah qa hF
  u_c ah qa hF
  u_reg qa hF
  u_op qa hF
  u_op qa hF
  u_op qa hF
  u_skip qa hF
  u_skip qa hF
  u_op qa hF
  u_op qa hF
  u_skip qa hF
  u_skip qa hF
  u_skip qa hF
  u_skip qa hF
  u_op qa hF
  u_c ac qa hF
  u_cnd false qa hF
  u_c aJ qa hF
  u_c ah qa hF
  u_c ah qa hF
  u_reg qa hF
  u_op qa hF
  u_op qa hF
  u_op qa hF
  u_skip qa hF
  u_skip qa hF
  u_op qa hF
  u_c ac qa hF
  u_cnd true qa hF
  u_c aZ qa hF
  refine aH (λwq hq=>?_);replace hF:=qa hF hq;clear hq;refine⟨rfl,_,stepG_unwind_entry (v:=.tuple #[]) (evs:=#[mk .enable]) rfl H.f_enable (x_enable_n L) (x_enable_b L) (x_enable_x L) (x_enable_f L) (by simp[Extern.Race.none_]) (by simp[mk]) (by simp[mk]),?_⟩;refine⟨mT+1,?_⟩;exact cw rfl (λwq hq=>by
   refine goes_leave0 rfl rfl H.f_add rfl ⟨by u_nil,?_⟩
   exact hT _ (qa hF hq))
theorem waitRound (H:WgLib P L) {K:aa->ag->Prop} {mT:Nat}
  (hT:∀w,bu L.tWg Wg w->Goes P true (RM L.tWg Wg F) DC0 K mT (G (b₀.at (a₀.put ((ops₀[i₀]?).bind (·.dst)) (.tuple #[])) (.inRegion ops₀ rest₀::k₀)) cs) w)
  (g:aa) (w:ag) (h:Anch L Wg (b₀.at a₀ (.inRegion ops₀ (i₀::rest₀)::k₀)) cs g w):
  MG P L.tWg Wg F (oN P L.tWg Wg F (Anch L Wg (b₀.at a₀ (.inRegion ops₀ (i₀::rest₀)::k₀)) cs) (MG P L.tWg Wg F K)) g w:=by
 lib_facts
 obtain⟨T,rfl,OQ,t0,hF⟩:=h;obtain⟨v0,v1,v2,v3,v4,v5,v6,v7,v8,v9,v10,v11,v12,v13,v14,v15,v16,v17,v18,v19,v20,v21,v22,v23,v24,v25,v26,v27,v28,v29,v30,v31,v32,v33,v34,v35,v36,v37,v38,v39,v40,v41,v42,v43,v44,v45,v46,v47,v48,v49,v50,v51,v52,v53,v54,v55,v56,v57,v58,v59,v60,v61,v62,v63,v64,v65,v66,v67,v68,v69,v70,v71,v72,v73,v74,v75,v76,v77,v78,v79,v80,v81,v82,v83,rfl⟩:=array84 T OQ;simp only[List.getElem?_toArray,List.getElem?_cons_zero,aE]at t0;subst t0;refine⟨30,?_⟩;simp only[L7,body_wait,waitFn,bU]
 u_c stepG_block qa hF
 u_c ah qa hF
 u_reg qa hF
 u_op qa hF
 u_op qa hF
 u_op qa hF
 u_call H.f_uLoad (nm_uLoad L) uLoadFn qa hF
 u_c ah qa hF
 u_reg qa hF
 u_op qa hF
 u_c ac qa hF
 u_c ah qa hF
 u_reg qa hF
 u_op qa hF
 u_op qa hF
 u_op qa hF
 refine aH (λw1 h1=>?_);replace hF:=qa hF h1;clear h1;refine⟨rfl,λv hv hw=>?_⟩;rcases aU v with rfl|hvp
 ·replace hw:WgAt L.tWg Wg w1 0 0:=by simpa using hw
  refine⟨_,bP (v:=0) rfl rfl (by k_ne) rfl H.f_loadU64 (x_loadU64_n L) (x_loadU64_b L) (x_loadU64_x L) .u64 (x_loadU64_f L) rfl hw.cellSt,λ_=>⟨60,?_⟩,λh=>absurd rfl h⟩;clear hw
  walk_nrm
  u_op qa hF
  u_c ac qa hF
  u_c aZ qa hF
  u_leave1 H.f_uLoad qa hF
  u_op qa hF
  u_c ac qa hF
  u_c ah qa hF
  u_reg qa hF
  u_op qa hF
  u_op qa hF
  u_op qa hF
  u_op qa hF
  u_c ac qa hF
  u_c ah qa hF
  u_reg qa hF
  u_op qa hF
  u_op qa hF
  u_op qa hF
  u_op qa hF
  u_c ac qa hF
  u_c ah qa hF
  u_c ah qa hF
  u_reg qa hF
  u_op qa hF
  u_op qa hF
  u_c ac qa hF
  u_cond true qa hF
  u_c ah qa hF
  u_cond true qa hF
  u_c ah qa hF
  u_reg qa hF
  refine aH (λw5 h5=>?_);replace hF:=qa hF h5;clear h5;refine⟨rfl,_,stepG_mark0 .enable (by simp) rfl rfl (by k_ne) rfl H.f_enable (x_enable_n L) (x_enable_b L) (x_enable_x L) (x_enable_f L),12,?_⟩
  walk_nrm
  u_c ac qa hF
  u_reg qa hF
  u_op qa hF
  u_conv H.underlying_tWgP H.room_tWg (WgLive.cell0 hF).choose_spec qa hF
  refine aH (λw6 h6=>?_);replace hF:=qa hF h6;clear h6;refine⟨rfl,_,stepG_markAt (.acquire) (by simp) rfl rfl (by k_ne) rfl H.f_acquire (x_acquire_n L) (x_acquire_b L) (x_acquire_x L) (x_acquire_f L) (by simp[Act.eval,stA]),?_⟩;refine⟨mT+1+19,?_⟩
  walk_nrm
  u_c ac qa hF
  u_c ah qa hF
  u_c ah qa hF
  u_reg qa hF
  u_op qa hF
  u_op qa hF
  u_op qa hF
  u_op qa hF
  u_op qa hF
  u_op qa hF
  u_op qa hF
  u_op qa hF
  u_skip qa hF
  u_skip qa hF
  u_op qa hF
  u_c ac qa hF
  u_cond false qa hF
  u_c aJ qa hF
  u_c aZ qa hF
  exact cw rfl (λwq hq=>by
   refine goes_leave0 rfl rfl H.f_wait rfl ⟨by u_nil,?_⟩
   exact hT _ (qa hF hq))
 ·obtain⟨S,hS⟩:∃S:Int,(v:Int)*KK=S:=⟨_,rfl⟩
  have a1:S/4294967296=(v:Int):=by rw[<-hS];simp only[KK];omega
  have b1:bits .and .u64 S 2147483648=0:=by rw[<-hS];have:=st_flag v 0 (by omega) (by omega);simpa[KK]using this
  have b2:bits .and .u64 S 2147483647=0:=by rw[<-hS];have:=st_waiters v 0 (by omega) (by omega);simpa[KK]using this
  have c1:IntKind.i32.wrap (v:Int)=(v:Int):=by rw[IntKind.wrap_i32];omega
  have gB:IntKind.u64.wrap (S+1)=S+1:=by rw[IntKind.wrap_u64,<-hS];simp only[KK];omega
  have q3:decide ((v:Int)<0)=false:=xdf (by omega);have q4:decide (0<(v:Int))=true:=xdt (by omega);have q5:((v:Int)==0)=false:=by simp;omega
  have q6:decide ((v:Int)=0)=false:=xdf (by omega);rw[hS]at hw;refine⟨_,bP (v:=S) rfl rfl (by k_ne) rfl H.f_loadU64 (x_loadU64_n L) (x_loadU64_b L) (x_loadU64_x L) .u64 (x_loadU64_f L) rfl hw.cellSt,λh0=>absurd h0 (by omega),λ_=>⟨60,?_⟩⟩;clear hw
  walk_nrm
  u_op qa hF
  u_c ac qa hF
  u_c aZ qa hF
  u_leave1 H.f_uLoad qa hF
  u_op qa hF
  u_c ac qa hF
  u_c ah qa hF
  u_reg qa hF
  u_op qa hF
  u_op qa hF
  u_op qa hF
  u_op qa hF
  u_c ac qa hF
  u_c ah qa hF
  u_reg qa hF
  u_op qa hF
  u_op qa hF
  u_op qa hF
  u_op qa hF
  u_c ac qa hF
  u_c ah qa hF
  u_c ah qa hF
  u_reg qa hF
  u_op qa hF
  u_op qa hF
  u_c ac qa hF
  u_cnd false qa hF
  u_c aJ qa hF
  u_c ah qa hF
  u_reg qa hF
  u_op qa hF
  u_op qa hF
  u_op qa hF
  u_op qa hF
  u_op qa hF
  u_op qa hF
  u_call H.f_uCas (nm_uCas L) uCasFn qa hF
  u_c ah qa hF
  u_reg qa hF
  u_op qa hF
  u_c ac qa hF
  u_c ah qa hF
  u_reg qa hF
  u_op qa hF
  u_op qa hF
  u_op qa hF
  u_op qa hF
  u_op qa hF
  refine aH (λw2 h2=>?_);replace hF:=qa hF h2;clear h2;refine⟨rfl,λv' I5 hw=>⟨λe=>?_,λe=>?_⟩⟩
  ·subst e;rw[hS]at hw⊢;refine⟨_,(stepG_cas_hit (v:=S) (n:=S+1) rfl rfl (by k_ne) rfl H.f_casU64 (x_casU64_n L) (x_casU64_b L) (x_casU64_x L) .u64 (x_casU64_f L) rfl rfl rfl hw.cellSt (hw.thaw 0)).trans (by rfl),40,?_⟩;replace hF:bu L.tWg Wg (w2.setCell (stA Wg) (.int .u64 (S+1))):=⟨_,_,hw.setSt _⟩
   clear hw
   walk_nrm
   u_op qa hF
   u_c ac qa hF
   u_c aZ qa hF
   u_leave1 H.f_uCas qa hF
   u_c ac qa hF
   u_cond true qa hF
   u_c ah qa hF
   u_c ah qa hF
   u_reg qa hF
   u_op qa hF
   u_op qa hF
   u_op qa hF
   u_op qa hF
   u_c ac qa hF
   u_cond true qa hF
   u_reg qa hF
   u_op qa hF
   u_op qa hF
   u_op qa hF
   u_conv H.underlying_tPU32 H.room_tU32 (WgLive.cell1 hF).choose_spec qa hF
   refine aH (λw3 h3=>?_);replace hF:=qa hF h3;clear h3;refine⟨rfl,_,stepG_markAt .write (by simp) rfl rfl (by k_ne) rfl H.f_raceWrite (x_raceWrite_n L) (x_raceWrite_b L) (x_raceWrite_x L) (x_raceWrite_f L) (ad:=⟨Wg,1,none⟩) (by simp[Act.eval]),40,?_⟩
   walk_nrm
   u_c ac qa hF
   u_c ah qa hF
   u_reg qa hF
   u_op qa hF
   u_c ac qa hF
   u_c ah qa hF
   u_c ah qa hF
   u_reg qa hF
   u_op qa hF
   u_op qa hF
   u_op qa hF
   u_op qa hF
   u_skip qa hF
   u_op qa hF
   u_c ac qa hF
   u_cond false qa hF
   u_c aJ qa hF
   u_c ah qa hF
   u_reg qa hF
   u_op qa hF
   u_op qa hF
   u_op qa hF
   u_op qa hF
   refine aH (λw4 h4=>?_);replace hF:=qa hF h4;clear h4;refine⟨rfl,rfl,λ⟨st,hw⟩=>stepG_semacquire_wait rfl rfl rfl H.f_semacquire (x_semacquire_n L) (x_semacquire_b L) (x_semacquire_x L) (x_semacquire_f L) (by simp[Act.eval,smA]) hw.cellSm,λhf=>?_⟩;refine⟨_,(stepG_semacquire (n:=1) rfl rfl (by k_ne) rfl H.f_semacquire (x_semacquire_n L) (x_semacquire_b L) (x_semacquire_x L) (x_semacquire_f L) (by simp[Act.eval,smA]) hf.cellSm (by k_ne) (hf.thaw 1)).trans (by rfl),40,?_⟩;replace hF:bu L.tWg Wg (w4.setCell (smA Wg) (.int .u32 0)):=⟨_,_,hf.setSm 0⟩
   clear hf
   walk_nrm
   u_c ac qa hF
   u_c ah qa hF
   u_reg qa hF
   u_op qa hF
   u_op qa hF
   u_op qa hF
   u_call H.f_uLoad (nm_uLoad L) uLoadFn qa hF
   u_c ah qa hF
   u_reg qa hF
   u_op qa hF
   u_c ac qa hF
   u_c ah qa hF
   u_reg qa hF
   u_op qa hF
   u_op qa hF
   u_op qa hF
   refine aH (λw7 h7=>?_);replace hF:=qa hF h7;clear h7;refine⟨rfl,λhw=>⟨_,bP (v:=0) rfl rfl (by k_ne) rfl H.f_loadU64 (x_loadU64_n L) (x_loadU64_b L) (x_loadU64_x L) .u64 (x_loadU64_f L) rfl hw.cellSt,40,?_⟩⟩;clear hw
   walk_nrm
   u_op qa hF
   u_c ac qa hF
   u_c aZ qa hF
   u_leave1 H.f_uLoad qa hF
   u_op qa hF
   u_op qa hF
   u_c ac qa hF
   u_c ah qa hF
   u_cond true qa hF
   u_c ah qa hF
   u_reg qa hF
   refine aH (λw5 h5=>?_);replace hF:=qa hF h5;clear h5;refine⟨rfl,_,stepG_mark0 .enable (by simp) rfl rfl (by k_ne) rfl H.f_enable (x_enable_n L) (x_enable_b L) (x_enable_x L) (x_enable_f L),12,?_⟩
   walk_nrm
   u_c ac qa hF
   u_reg qa hF
   u_op qa hF
   u_conv H.underlying_tWgP H.room_tWg (WgLive.cell0 hF).choose_spec qa hF
   refine aH (λw6 h6=>?_);replace hF:=qa hF h6;clear h6;refine⟨rfl,_,stepG_markAt (.acquire) (by simp) rfl rfl (by k_ne) rfl H.f_acquire (x_acquire_n L) (x_acquire_b L) (x_acquire_x L) (x_acquire_f L) (by simp[Act.eval,stA]),?_⟩;refine⟨mT+1+9,?_⟩
   walk_nrm
   u_c ac qa hF
   u_c ah qa hF
   u_c ah qa hF
   u_reg qa hF
   u_op qa hF
   u_c ac qa hF
   u_cond false qa hF
   u_c aJ qa hF
   u_c aZ qa hF
   exact cw rfl (λwq hq=>by
    refine goes_leave0 rfl rfl H.f_wait rfl ⟨by u_nil,?_⟩
    exact hT _ (qa hF hq))
  ·refine⟨_,stepG_cas_miss (v:=(v':Int)*KK) (old:=S) (n:=S+1) rfl rfl (by k_ne) rfl H.f_casU64 (x_casU64_n L) (x_casU64_b L) (x_casU64_x L) .u64 (x_casU64_f L) rfl rfl rfl hw.cellSt (hw.thaw 0) (by rw[<-hS];simp only[KK];omega),20,?_⟩;clear hw
   walk_nrm
   u_op qa hF
   u_c ac qa hF
   u_c aZ qa hF
   u_leave1 H.f_uCas qa hF
   u_c ac qa hF
   u_cond false qa hF
   u_c aJ qa hF
   u_c stepG_inBlock qa hF
   u_c stepG_inLoop qa hF
   refine aH (λw3 h3=>?_);replace hF:=qa hF h3;exact⟨_,rfl,by simp,by simp,hF⟩
theorem waitStart (H:WgLib P L) {c:ao} (w:ag) (hF:bu L.tWg Wg w):
  MG P L.tWg Wg F (iH P .disable (MG P L.tWg Wg F (Anch L Wg c cs))) (G ((base L.wait).at ⟨#[.pointer (some ⟨Wg,0,none⟩),ae,ae,ae,ae,ae,ae,ae,ae,ae,ae,ae,ae,ae,ae,ae,ae,ae,ae,ae,ae,ae,ae,ae,ae,ae,ae,ae,ae,ae,ae,ae,ae,ae,ae,ae,ae,ae,ae,ae,ae,ae,ae,ae,ae,ae,ae,ae,ae,ae,ae,ae,ae,ae,ae,ae,ae,ae,ae,ae,ae,ae,ae,ae,ae,ae,ae,ae,ae,ae,ae,ae,ae,ae,ae,ae,ae,ae,ae,ae,ae,ae,ae,ae],[]⟩ [.code (body_wait L)]) (c::cs)) w:=by
 lib_facts
 simp only[body_wait,waitFn,bU];refine⟨6,?_⟩
 u_c ah qa hF
 u_cond true qa hF
 u_reg qa hF
 refine aH (λw1 h1=>?_);replace hF:=qa hF h1;clear h1;refine⟨rfl,_,stepG_mark0 .disable (by simp) rfl rfl (by k_ne) rfl H.f_disable (x_disable_n L) (x_disable_b L) (x_disable_x L) (x_disable_f L),6,?_⟩
 walk_nrm
 u_c ac qa hF
 u_c stepG_block qa hF
 u_c stepG_loop qa hF
 exact aH (λw2 h2=>⟨_,rfl,by simp,by simp,qa hF h2⟩)
end
end
end
section
open Go Go.Conc Go.ConcN Sim
def nZ (t:aG) (l:Loc):Prop:= ∀i a,touchAt t i=some a->a.loc≠l
theorem nZ.perm {l:Loc} (h:nZ t l) (g:Nat):Perm t g l:=λi a ha e=>(h i a ha e).elim
theorem nZ.jes {l:Loc} (h:nZ t l) (g:Nat):PermW t g l:=λi a ha e _=>(h i a ha e).elim
section
variable {Sh:Loc->Prop} {Own Rd BU NG:Nat->Loc->Prop} {t:aG} {j:Nat}
theorem CT.grow (h:CT Sh Own Rd t j) (ho:∀k l,BU k l->Own k l\/nZ t l) (hr:∀k l,NG k l->Rd k l\/nZ t l)
  (so:∀k l,Own k l->BU k l) (sr:∀k l,Rd k l->NG k l):CT Sh BU NG t j:=
 ⟨h.quiet,λk k1 kj l hl=>(ho k l hl).elim (h.own k k1 kj l) (λf=>f.perm k),λk k1 kj l hl=>(hr k l hl).elim (h.rd k k1 kj l) (λf=>f.jes k),
  λl hs hl=>h.free l hs λk k1 kj=>⟨λx=>(hl k k1 kj).1 (so k l x),λx=>(hl k k1 kj).2 (sr k l x)⟩,λl hs hl=>h.mine l hs λk k1 kj x=>hl k k1 kj (so k l x),h.nr,h.gs⟩
end
theorem SI (h:∀op∈t,mZ B op.act) {a:Addr} (ha:B<=a.block):nZ t (.cell a):=by
 intro i x hx e;obtain⟨op,dZ,pJ⟩:=bZ hx;have hl:=h op (mem_of_getElem? dZ) x pJ;rw[e]at hl;exact cB _ (xll hl ha)
end
section
open Go Go.Conc Go.ConcN Sim
open Go.ConcR (KK WgAt stA smA rd wr mk Payload DC0)
def sJ (B:Blocks):Loc->Prop
 |.cell a=>B a.block
 |.obj r=>B r
 |_=>False
def oO:Nat->Loc->Prop:=λ_ _=>False
section
variable [Payload] (P:az) (ty:aM) (Wg C n:Nat)
def CF (qy:Nat->Blocks->aN->ag->Prop) (i:Nat) (F _O:Blocks) (g:aa) (w:ag):Prop:=
 g.status=.running/\∃v,qy i F v w/\∀w1,Ext F w w1->cg C n w1->bu ty Wg w1->
  ∃g',ay P false g w1=.go g' (w1.setCell ⟨C,i,none⟩ v) #[⟨.cell ⟨C,i,none⟩,true,false⟩]/\
   ∃m,Goes P false (RW ty Wg C n 0 i) (DWs Wg oO oO C n (i+1)) (AtR0 P ty Wg C n 0 (i+1) v) m g' (w1.setCell ⟨C,i,none⟩ v)
def Script (qy:Nat->Blocks->aN->ag->Prop) (i:Nat) (F0:Blocks) (g:aa) (w:ag):Prop:=
 ∃F,(∀b,F b->F0 b)/\WG P false (CF P ty Wg C n qy i) F (λ_=>False) g w
def AtGoM (qy:Nat->Blocks->aN->ag->Prop) (i:Nat) (F:Blocks) (Next:aa->ag->Prop) (g:aa) (w:ag):Prop:=
 g.status=.running/\∃g' child,ay P true g w=.spawn g' child w #[]/\child.status=.running/\(cg C n w->Script P ty Wg C n qy i F child w)/\Next g' w
def Scr (qy:Nat->Blocks->aN->ag->Prop) (K:aa->ag->Prop):Nat->Blocks->Blocks->aa->ag->Prop
 |0,F,_,g,w=>g.status=.running/\(bu ty Wg w->∃A:aa->ag->Prop,(∀g w,A g w->g.status=.running)/\(∀g w,A g w->MG P ty Wg F (oN P ty Wg F A K) g w)/\MG P ty Wg F (iH P .disable (MG P ty Wg F A)) g w)
 |r+1,F,_,g,w=>g.status=.running/\(bu ty Wg w->MG P ty Wg F (iH P .disable (MG P ty Wg F (tT P ty Wg F (MG P ty Wg F (AtGoM P ty Wg C n qy (n-(r+1)) F λg' w=>WG P true (Scr qy K r) F (λ_=>False) g' w))))) g w)
end
structure WX where
 stage:Nat
 fuel:Nat
 deaf:Nat
 rank:Rank
 F:Blocks
 O:Blocks
 val:aN
section
variable [Payload] (P:az) (ty:aM) (Wg C n:Nat) (qy:Nat->Blocks->aN->ag->Prop)
inductive WS (i:Nat) (d:WX) (g:aa) (w:ag):Prop
 |own:d.stage=9->d.deaf=0->d.fuel=0->WGo P false (CF P ty Wg C n qy i) d.rank d.F d.O g w->WS i d g w
 |lib:WSit P ty Wg C n oO oO 0 (i+1) d.val d.stage d.fuel d.deaf g w->qy i d.F d.val w->WS i d g w
inductive Tag where
 |wg (r:Nat)|kdS (r:Nat)|ad (r:Nat)|rs (r:Nat)|en (r:Nat)|gos (r:Nat)
 |kd|anch|ld|cs (vs:Nat)|ws|sm|blk|l2|en2|acq
inductive MS (K:aa->ag->Prop):Tag->Nat->Nat->Rank->Blocks->Blocks->aa->ag->Prop
 |wg {r:Nat} {rk:Rank} {F O:Blocks} {g:aa} {w:ag}:r<=n->WGo P true (Scr P ty Wg C n qy K r) rk F O g w->MS K (.wg r) 0 0 rk F O g w
 |kdS {r f:Nat} {F:Blocks} {g:aa} {w:ag}:r<n->Goes P true (RM ty Wg F) DC0 (iH P .disable (MG P ty Wg F (tT P ty Wg F (MG P ty Wg F (AtGoM P ty Wg C n qy (n-(r+1)) F λg' w=>WG P true (Scr P ty Wg C n qy K r) F (λ_=>False) g' w))))) f g w->MS K (.kdS r) f 0 .leaf F (λ_=>False) g w
 |ad {r f:Nat} {F:Blocks} {g:aa} {w:ag}:r<n->Goes P true (RM ty Wg F) DC0 (tT P ty Wg F (MG P ty Wg F (AtGoM P ty Wg C n qy (n-(r+1)) F λg' w=>WG P true (Scr P ty Wg C n qy K r) F (λ_=>False) g' w))) f g w->MS K (.ad r) f 1 .leaf F (λ_=>False) g w
 |rs {r f:Nat} {F:Blocks} {g:aa} {w:ag}:r<n->Goes P true (RM ty Wg F) DC0 (iH P (.read (smA Wg)) (MG P ty Wg F (iH P .enable (MG P ty Wg F (AtGoM P ty Wg C n qy (n-(r+1)) F λg' w=>WG P true (Scr P ty Wg C n qy K r) F (λ_=>False) g' w))))) f g w->MS K (.rs r) f 1 .leaf F (λ_=>False) g w
 |en {r f:Nat} {F:Blocks} {g:aa} {w:ag}:r<n->Goes P true (RM ty Wg F) DC0 (iH P .enable (MG P ty Wg F (AtGoM P ty Wg C n qy (n-(r+1)) F λg' w=>WG P true (Scr P ty Wg C n qy K r) F (λ_=>False) g' w))) f g w->MS K (.en r) f 1 .leaf F (λ_=>False) g w
 |gos {r f:Nat} {F:Blocks} {g:aa} {w:ag}:r<n->Goes P true (RM ty Wg F) DC0 (AtGoM P ty Wg C n qy (n-(r+1)) F λg' w=>WG P true (Scr P ty Wg C n qy K r) F (λ_=>False) g' w) f g w->MS K (.gos r) f 0 .leaf F (λ_=>False) g w
 |kd {f:Nat} {F:Blocks} {A:aa->ag->Prop} {g:aa} {w:ag}:(∀g w,A g w->g.status=.running)->(∀g w,A g w->MG P ty Wg F (oN P ty Wg F A K) g w)->Goes P true (RM ty Wg F) DC0 (iH P .disable (MG P ty Wg F A)) f g w->MS K .kd f 0 .leaf F (λ_=>False) g w
 |anch {f:Nat} {F:Blocks} {A:aa->ag->Prop} {g:aa} {w:ag}:(∀g w,A g w->g.status=.running)->(∀g w,A g w->MG P ty Wg F (oN P ty Wg F A K) g w)->Goes P true (RM ty Wg F) DC0 A f g w->MS K .anch f 1 .leaf F (λ_=>False) g w
 |ld {f:Nat} {F:Blocks} {A:aa->ag->Prop} {g:aa} {w:ag}:(∀g w,A g w->g.status=.running)->(∀g w,A g w->MG P ty Wg F (oN P ty Wg F A K) g w)->Goes P true (RM ty Wg F) DC0 (oN P ty Wg F A K) f g w->MS K .ld f 1 .leaf F (λ_=>False) g w
 |cs {vs f:Nat} {F:Blocks} {A:aa->ag->Prop} {g:aa} {w:ag}:(∀g w,A g w->g.status=.running)->(∀g w,A g w->MG P ty Wg F (oN P ty Wg F A K) g w)->Goes P true (RM ty Wg F) DC0 (Ak P ty Wg F A K vs) f g w->MS K (.cs vs) f 1 .leaf F (λ_=>False) g w
 |ws {f:Nat} {F:Blocks} {g:aa} {w:ag}:Goes P true (RM ty Wg F) DC0 (iH P (.write (smA Wg)) (MG P ty Wg F (vB P ty Wg F K))) f g w->MS K .ws f 1 .leaf F (λ_=>False) g w
 |sm {f:Nat} {F:Blocks} {g:aa} {w:ag}:Goes P true (RM ty Wg F) DC0 (vB P ty Wg F K) f g w->MS K .sm (f+1) 1 .leaf F (λ_=>False) g w
 |blk {F:Blocks} {g:aa} {w:ag}:(∀w1,RM ty Wg F w w1->vB P ty Wg F K g w1)->MS K .blk 0 1 .leaf F (λ_=>False) {g with status:=.blocked} w
 |l2 {f:Nat} {F:Blocks} {g:aa} {w:ag}:Goes P true (RM ty Wg F) DC0 (Aj P ty Wg F K) f g w->MS K .l2 f 1 .leaf F (λ_=>False) g w
 |en2 {f:Nat} {F:Blocks} {g:aa} {w:ag}:Goes P true (RM ty Wg F) DC0 (iH P .enable (MG P ty Wg F (iH P (.acquire (stA Wg)) K))) f g w->MS K .en2 f 1 .leaf F (λ_=>False) g w
 |acq {f:Nat} {F:Blocks} {g:aa} {w:ag}:Goes P true (RM ty Wg F) DC0 (iH P (.acquire (stA Wg)) K) f g w->MS K .acq f 0 .leaf F (λ_=>False) g w
end
section
variable [Payload]
section
variable {P:az} {ty:aM} {Wg C n:Nat} {qy:Nat->Blocks->aN->ag->Prop} {K:aa->ag->Prop} {tag:Tag} {f d:Nat} {rk:Rank} {F O:Blocks} {a:aa} {w w1:ag}
omit [Payload] in
theorem jf (w:ag):RM ty Wg F w w:=⟨Ext.refl ..,id⟩
theorem MS.rely (h:MS P ty Wg C n qy K tag f d rk F O a w) (r:RM ty Wg F w w1):MS P ty Wg C n qy K tag f d rk F O a w1:=by
 cases h with
 |wg h0 h=>exact .wg h0 (h.ext r.ext)
 |kdS h0 h=>exact .kdS h0 (h.rely xh r)
 |ad h0 h=>exact .ad h0 (h.rely xh r)
 |rs h0 h=>exact .rs h0 (h.rely xh r)
 |en h0 h=>exact .en h0 (h.rely xh r)
 |gos h0 h=>exact .gos h0 (h.rely xh r)
 |kd h0 h1 h=>exact .kd h0 h1 (h.rely xh r)
 |anch h0 h1 h=>exact .anch h0 h1 (h.rely xh r)
 |ld h0 h1 h=>exact .ld h0 h1 (h.rely xh r)
 |cs h0 h1 h=>exact .cs h0 h1 (h.rely xh r)
 |ws h=>exact .ws (h.rely xh r)
 |sm h=>exact .sm (h.rely xh r)
 |blk h=>exact .blk λw2 r2=>h w2 (xh _ _ _ r r2)
 |l2 h=>exact .l2 (h.rely xh r)
 |en2 h=>exact .en2 (h.rely xh r)
 |acq h=>exact .acq (h.rely xh r)
omit [Payload] in
theorem qK {Stop:aa->ag->Prop} (hs:∀g w,Stop g w->g.status=.running) {n:Nat} {w:ag} (h:Goes P true (RM ty Wg F) DC0 Stop n g w):g.status=.running:=
 h.running hs w (jf w)
theorem q6p:∀(r:Nat) (F O:Blocks) (g:aa) (w:ag),Scr P ty Wg C n qy K r F O g w->g.status=.running:=by
 intro r F O g w h;cases r with
 |zero=>exact h.1
 |succ r=>exact h.1
omit [Payload] in
theorem J8 {main:Bool} {Stop:Blocks->Blocks->aa->ag->Prop} (hs:∀F O g w,Stop F O g w->g.status=.running) {r:Rank} (h:WGo P main Stop r F O g w):g.status=.running:=by
 cases r with
 |leaf=>exact hs _ _ _ _ (h w (Ext.refl ..))
 |node f=>exact h.1
theorem MS.status (h:MS P ty Wg C n qy K tag f d rk F O a w):(a.status=.running/\tag≠.blk)\/(a.status=.blocked/\tag=.blk):=by
 cases h with
 |wg h0 h=>exact .inl ⟨J8 (λF O g w x=>q6p _ F O g w x) h,by simp⟩
 |kdS h0 h=>exact .inl ⟨qK (λ_ _ x=>x.1) h,by simp⟩
 |ad h0 h=>exact .inl ⟨qK (λ_ _ x=>x.1) h,by simp⟩
 |rs h0 h=>exact .inl ⟨qK (λ_ _ x=>x.1) h,by simp⟩
 |en h0 h=>exact .inl ⟨qK (λ_ _ x=>x.1) h,by simp⟩
 |gos h0 h=>exact .inl ⟨qK (λ_ _ x=>x.1) h,by simp⟩
 |kd h0 h1 h=>exact .inl ⟨qK (λ_ _ x=>x.1) h,by simp⟩
 |anch h0 h1 h=>exact .inl ⟨qK h0 h,by simp⟩
 |ld h0 h1 h=>exact .inl ⟨qK (λ_ _ x=>x.1) h,by simp⟩
 |cs h0 h1 h=>exact .inl ⟨qK (λ_ _ x=>x.1) h,by simp⟩
 |ws h=>exact .inl ⟨qK (λ_ _ x=>x.1) h,by simp⟩
 |sm h=>exact .inl ⟨qK (λ_ _ x=>x.1) h,by simp⟩
 |blk h=>exact .inr ⟨rfl,rfl⟩
 |l2 h=>exact .inl ⟨qK (λ_ _ x=>x.1) h,by simp⟩
 |en2 h=>exact .inl ⟨qK (λ_ _ x=>x.1) h,by simp⟩
 |acq h=>exact .inl ⟨qK (λ_ _ x=>x.1) h,by simp⟩
theorem MS.wokenBy (h:MS P ty Wg C n qy K tag f d rk F O a w) (r:RM ty Wg F w w1) (g g':aa):
  ∃tag' f',MS P ty Wg C n qy K tag' f' d rk F O (woken P g g' w1 a) w1/\f'<=f+1/\(tag'=tag\/(tag=.blk/\tag'=.sm))/\(mayWake P g=true->g'.status=.running->tag'≠.blk):=by
 have h':=h.rely r;unfold Go.Conc.woken;split
 ·rcases h'.status with⟨hs,eG⟩|⟨_,rfl⟩
  ·exact⟨tag,f,by rw[again_running _ (.inl hs)];exact h',by omega,.inl rfl,λ_ _=>eG⟩
  ·cases h' with
   |blk hb=>
    have h3:=hb w1 (jf w1);exact⟨.sm,0+1,by rw[Go.ConcR.again_blocked h3.1 h3.2.1];exact .sm (aH hb),by omega,.inr ⟨rfl,rfl⟩,λ_ _=>by simp⟩
 ·rename_i hc;exact⟨tag,f,h',by omega,.inl rfl,λh1 h2=>absurd (by simp[h1,h2]) hc⟩
end
def xd (D:Nat->WX):Nat->WD:=λi=>⟨if(D i).stage=9 then 7 else(D i).stage,(D i).fuel,(D i).deaf⟩
def kR:Tag->Nat
 |.rs _|.en _|.gos _=>1
 |_=>0
def GJ:Tag->Prop
 |.wg _|.kdS _|.ad _|.rs _|.en _|.gos _|.kd|.anch|.ld|.cs _=>True
 |_=>False
def JI:Tag->Prop
 |.ws|.sm|.blk=>True
 |_=>False
def Pw:Tag->Prop
 |.l2|.en2|.acq=>True
 |_=>False
inductive Mo (j:Nat) (D:Nat->WD):Tag->Int->Int->Prop
 |opn {tag:Tag}:GJ tag->OpenSt j D->(∀vs,tag=.cs vs->Vc j D<=vs/\1<=vs)->Mo j D tag (((Vc j D+kR tag:Nat):Int)*KK) 0
 |reg {tag:Tag}:JI tag->OpenSt j D->1<=Vc j D->Mo j D tag (((Vc j D:Nat):Int)*KK+1) 0
 |last {tag:Tag} (L:Nat):JI tag->L<j->((D L).stage=4\/(D L).stage=3\/(D L).stage=2)->(∀i,i<j->i≠L->(D i).stage=1)->Mo j D tag (if(D L).stage=2 then 0 else 1) 0
 |sema {tag:Tag}:(tag=.ws\/tag=.sm)->AllQuit j D->Mo j D tag 0 1
 |fin {tag:Tag}:Pw tag->AllQuit j D->Mo j D tag 0 0
def psi (n v:Nat):Tag->Nat
 |.wg r=>8*n+20+32*r
 |.kdS r=>8*n+20+32*r+24
 |.ad r=>8*n+20+32*r+23
 |.rs r=>8*n+20+32*r+22
 |.en r=>8*n+20+32*r+21
 |.gos r=>8*n+20+32*r+20
 |.kd=>8*n+12
 |.anch=>8*v+8
 |.ld=>8*v+7
 |.cs vs=>8*vs+6
 |.ws=>5
 |.sm=>4
 |.blk=>4
 |.l2=>3
 |.en2=>2
 |.acq=>1
end
end
section
open Go Go.Conc Go.ConcN Sim
open Go.ConcR (KK WgAt stA smA rd wr mk Payload DC0 g_of_ofEvents)
section
variable [Payload]
section
variable (o Wg C:Nat) (SB:Blocks)
def ShP:Loc->Prop:=ShB λb=>SB b\/b=Wg
def oW (j:Nat) (D:Nat->WX) (k:Nat) (l:Loc):Prop:= ∃i,i<j/\k=o+i/\(sJ (D i).O l\/l=.cell ⟨C,i,none⟩)
def RdD (j:Nat) (D:Nat->WX) (k:Nat) (l:Loc):Prop:= ∃i,i<j/\k=o+i/\sJ (λb=>(D i).F b/\¬(D i).O b) l
structure Sep (j:Nat) (D:Nat->WX) (FM OM:Blocks) (w:ag):Prop where
 wF:∀i,i<j->∀b,(D i).F b->b<w.heap.size/\b≠Wg/\b≠C/\¬SB b
 wO:∀i,i<j->∀b,(D i).O b->(D i).F b
 apart:∀i i',i<j->i'<j->i≠i'->∀b,(D i).O b->¬(D i').F b
 mF:∀b,FM b->b<w.heap.size/\b≠Wg/\b≠C/\¬SB b/\∀i,i<j->¬(D i).O b
 mO:∀b,OM b->FM b/\∀i,i<j->¬(D i).F b
 lW:Wg<w.heap.size
 lC:C<w.heap.size
 lS:∀b,SB b->b<w.heap.size
 hCW:C≠Wg
 sW:¬SB Wg
 sC:¬SB C
end
def Gi (o:Nat) (a:Addr) (t:aG):Prop:= ∃p,p<=t.size/\(∀i g,i<p->t.g? i=some g->g<o)/\∀i,p<=i->t.act? i≠some (.mark (.release a))
omit [Payload] in
theorem Gi.app {o:Nat} {a:Addr} {u:aG} (h:Gi o a t) (hu:∀op∈u,op.act≠.mark (.release a)):Gi o a (t++u):=by
 obtain⟨p,h0,h1,h2⟩:=h;refine⟨p,by simp;omega,λi g hi hg=>h1 i g hi (by rw[<-g?_old (u:=u) (by omega)];exact hg),λi hi he=>?_⟩;obtain⟨op,ho,U2⟩:=au.1 he;rcases aW ho with⟨_,xA⟩|⟨_,MN⟩
 ·exact h2 i hi (by rw[act?_of xA,U2])
 ·exact hu op MN U2
section
variable (P:az) (ty:aM) (o Wg C n:Nat) (SB:Blocks) (qy:Nat->Blocks->aN->ag->Prop)
structure wz (j:Nat) (D:Nat->WX) (w:ag) (t:aG):Prop where
 ct:CT (ShP Wg SB) (oW o C j D) (RdD o j D) t (o-1+j)
 norel:Gi o (stA Wg) t
 hand:∀i g,t.g? i=some g->g≠0->g<o->t.counts i->∃q,t.g? q=some 0/\bG t i q
 known:∀i a,touchAt t i=some a->Knows t 0 i\/(ShP Wg SB a.loc/\a.kind=.atomic)\/∃g,t.g? i=some g/\o<=g/\a.kind≠.atomic
 mem:∀i a,touchAt t i=some a->a.loc.isMemory=true
 seen:∀op∈t,mZ w.heap.size op.act
structure gW (j:Nat) (gs:Array aa) (w:ag) (t:aG) (D:Nat->WX) (q:Nat->Nat) (d0:Nat):Prop where
 size:gs.size=o+j
 old:∀i g,0<i->i<o->gs[i]?=some g->QuitsD P (q i) (Deaf t i) g
 wk:∀i,i<j->∃g,gs[o+i]?=some g/\WS P ty Wg C n qy i (D i) g w
 tr:wz o Wg C SB j D w t
 deaf0:Deaf t 0=d0
 deafW:∀i,i<j->Deaf t (o+i)=(D i).deaf
 above:∀k,o+j<=k->Deaf t k=0
 rel:∀i,i<j->(D i).stage<=6->∃r,RelBy (stA Wg) t (o+i) r
 has:∀i,i<j->(D i).stage<=6->Has C i (D i).val w
 pay:cg C n w
 tH:0<o
end
section
variable {P:az} {ty:aM} {o Wg C n:Nat} {SB:Blocks} {qy:Nat->Blocks->aN->ag->Prop} {j:Nat} {gs:Array aa} {w w':ag} {t:aG} {D:Nat->WX} {q:Nat->Nat} {d0:Nat} {FM OM:Blocks}
omit [Payload] in
theorem Sep.own (h:Sep Wg C SB j D FM OM w):Apart (ShP Wg SB) (oW o C j D) (RdD o j D):=by
 have rT:∀{B:Blocks} {l:Loc},sJ B l->∃b,B b/\((∃a,l=.cell a/\a.block=b)\/l=.obj b):=by
  intro B l hl;cases l with
  |cell a=>exact⟨_,hl,.inl ⟨a,rfl,rfl⟩⟩
  |obj r=>exact⟨_,hl,.inr rfl⟩
  |_=>exact hl.elim
 have same:∀{b b':Nat} {l:Loc},((∃a:Addr,l=.cell a/\a.block=b)\/l=.obj b)->((∃a:Addr,l=.cell a/\a.block=b')\/l=.obj b')->b=b':=by
  intro b b' l h1 h2;rcases h1 with⟨a,rfl,rfl⟩|rfl
  ·rcases h2 with⟨a',e,rfl⟩|e
   ·cases e;rfl
   ·cases e
  ·rcases h2 with⟨a',e,rfl⟩|e
   ·cases e
   ·cases e;rfl
 have cellC:∀{b i:Nat} {l:Loc},l=.cell ⟨C,i,none⟩->((∃a:Addr,l=.cell a/\a.block=b)\/l=.obj b)->b=C:=by
  intro b i l e h1;subst e;rcases h1 with⟨a,e,rfl⟩|e
  ·cases e;rfl
  ·cases e
 have JC:∀{l:Loc} {b:Nat},ShP Wg SB l->((∃a:Addr,l=.cell a/\a.block=b)\/l=.obj b)->SB b\/b=Wg:=by
  rintro l b ⟨a,rfl,hs⟩ h1;rcases h1 with⟨a',e,rfl⟩|e
  ·cases e;exact hs
  ·cases e
 refine⟨?_,?_,?_,?_⟩
 ·rintro k k' l ⟨i,hi,rfl,h1⟩ ⟨i',fu,rfl,h2⟩;by_cases e:i=i'
  ·rw[e]
  ·exfalso;rcases h1 with h1|h1<;>rcases h2 with h2|h2
   ·obtain⟨b,hb,hl⟩:=rT h1;obtain⟨b',fP,sU⟩:=rT h2;obtain rfl:=same hl sU;exact h.apart i i' hi fu e b hb (h.wO i' fu b fP)
   ·obtain⟨b,hb,hl⟩:=rT h1;exact(h.wF i hi b (h.wO i hi b hb)).2.2.1 (cellC h2 hl)
   ·obtain⟨b,hb,hl⟩:=rT h2;exact(h.wF i' fu b (h.wO i' fu b hb)).2.2.1 (cellC h1 hl)
   ·rw[h1]at h2;cases h2;exact e rfl
 ·rintro k k' l ⟨i,hi,rfl,h1⟩ ⟨i',fu,rfl,h2⟩;obtain⟨b',⟨fP,fI⟩,sU⟩:=rT h2;rcases h1 with h1|h1
  ·obtain⟨b,hb,hl⟩:=rT h1;obtain rfl:=same hl sU;by_cases e:i=i'
   ·subst e;exact fI hb
   ·exact h.apart i i' hi fu e b hb fP
  ·exact(h.wF i' fu b' fP).2.2.1 (cellC h1 sU)
 ·rintro k l ⟨i,hi,rfl,h1⟩ hs;rcases h1 with h1|h1
  ·obtain⟨b,hb,hl⟩:=rT h1;have:=h.wF i hi b (h.wO i hi b hb);rcases JC hs hl with x|x
   ·exact this.2.2.2 x
   ·exact this.2.1 x
  ·have:=JC (b:=C) hs (.inl ⟨_,h1,rfl⟩);rcases this with x|x
   ·exact h.sC x
   ·exact h.hCW x
 ·rintro k l ⟨i,hi,rfl,h1⟩ hs;obtain⟨b,⟨hb,_⟩,hl⟩:=rT h1;have:=h.wF i hi b hb;rcases JC hs hl with x|x
  ·exact this.2.2.2 x
  ·exact this.2.1 x
end
end
section
variable {o Wg C:Nat} {SB:Blocks} {j:Nat} {w w':ag} {t u:aG} {D D':Nat->WX}
theorem GU (h:∀i g,t.g? i=some g->g≠0->g<o->t.counts i->∃q,t.g? q=some 0/\bG t i q)
  (hu:∀op∈u,op.g=0\/o<=op.g\/op.act.touch?=none):∀i g,(t++u).g? i=some g->g≠0->g<o->(t++u).counts i->∃q,(t++u).g? q=some 0/\bG (t++u) i q:=by
 intro i g hg eG eB hc;have Bp:=hc;obtain⟨x,hx,_⟩:=hc;obtain⟨op,dZ,pJ⟩:=bZ hx;rcases aW dZ with⟨hi,fD⟩|⟨_,qD⟩
 ·obtain⟨q,hq,hb⟩:=h i g (by simpa[bV,getElem?_append_old hi]using hg) eG eB ((counts_old hi).1 Bp);have jO:q<t.size:=by
   unfold bV at hq;obtain⟨z,hz,_⟩:=au.1 hq;exact lt_size_of_getElem? hz
  exact⟨q,by simpa[bV,getElem?_append_old jO]using hq,hb_app u hb⟩
 ·have eg:op.g=g:=by simpa[bV,dZ]using hg
  rcases hu op qD with h0|h0|h0
  ·omega
  ·omega
  ·rw[h0]at pJ;cases pJ
theorem Hl (h:∀i a,touchAt t i=some a->Knows t 0 i\/(ShP Wg SB a.loc/\a.kind=.atomic)\/∃g,t.g? i=some g/\o<=g/\a.kind≠.atomic)
  (hu:∀op∈u,∀x,op.act.touch?=some x->op.g=0\/(ShP Wg SB x.loc/\x.kind=.atomic)\/(o<=op.g/\x.kind≠.atomic)):
  ∀i a,touchAt (t++u) i=some a->Knows (t++u) 0 i\/(ShP Wg SB a.loc/\a.kind=.atomic)\/∃g,(t++u).g? i=some g/\o<=g/\a.kind≠.atomic:=by
 intro i a ha;obtain⟨op,dZ,pJ⟩:=bZ ha;rcases aW dZ with⟨hi,fD⟩|⟨_,qD⟩
 ·rcases h i a (by rw[touchAt_of fD];exact pJ)with h0|h0|⟨g,h0,h1⟩
  ·exact .inl (h0.app u)
  ·exact .inr (.inl h0)
  ·exact .inr (.inr ⟨g,by rw[g?_old hi];exact h0,h1⟩)
 ·rcases hu op qD a pJ with h0|h0|h0
  ·have:=knows_own dZ;rw[h0]at this;exact .inl this
  ·exact .inr (.inl h0)
  ·exact .inr (.inr ⟨op.g,by simp[bV,dZ],h0⟩)
theorem Ra (h:∀op∈t,mZ B op.act) {l:Loc} {S:Blocks} (hl:sJ S l) (hS:∀b,S b->B<=b):nZ t l:=by
 cases l with
 |cell a=>exact SI h (hS _ hl)
 |obj r=>
  intro i x hx e;obtain⟨op,dZ,pJ⟩:=bZ hx;have nJ:=h op (mem_of_getElem? dZ) x pJ;rw[e]at nJ;exact cB _ (xll nJ (hS _ hl))
 |_=>exact hl.elim
theorem Sd {A B E:Blocks} (h:∀b,A b->B b\/E b) {l:Loc} (hl:sJ A l):sJ B l\/sJ E l:=by
 cases l with
 |cell a=>exact h _ hl
 |obj r=>exact h _ hl
 |_=>exact hl.elim
theorem wz.appW (h:wz o Wg C SB j D w t) (A:Apart (ShP Wg SB) (oW o C j D') (RdD o j D')) (hi:i<j) (ho:0<o) (eY:w.heap.size<=w'.heap.size)
  (hD:∀i',i'≠i->D' i'=D i') (hF:∀b,(D i).F b->(D' i).F b) (hO:∀b,(D i).O b->(D' i).O b) (jK:∀b,(D' i).F b->(D i).F b\/w.heap.size<=b) (uL:∀b,(D' i).O b->(D i).O b\/w.heap.size<=b) (nJ:∀b,(D i).F b->b<w.heap.size)
  (hg:∀op∈u,op.g=o+i)
  (hk:∀op∈u,∀x,op.act.touch?=some x->x.loc.isMemory=true/\((ShP Wg SB x.loc/\x.kind=.atomic)\/(x.kind=.plain/\(oW o C j D' (o+i) x.loc\/(RdD o j D' (o+i) x.loc/\x.write=false)))))
  (hn:∀op∈u,op.act≠.mark (.release (stA Wg))) (hl:∀op∈u,mZ w'.heap.size op.act):wz o Wg C SB j D' w' (t++u):=by
 have grow:CT (ShP Wg SB) (oW o C j D') (RdD o j D') t (o-1+j):=by
  refine CT.grow h.ct (λk l=>?_) (λk l=>?_) (λk l=>?_) (λk l=>?_)
  ·rintro⟨i',fu,rfl,h1⟩;by_cases e:i'=i
   ·subst e;rcases h1 with h1|h1
    ·rcases Sd uL h1 with h2|h2
     ·exact .inl ⟨i',fu,rfl,.inl h2⟩
     ·exact .inr (Ra h.seen h2 λ_ x=>x)
    ·exact .inl ⟨i',fu,rfl,.inr h1⟩
   ·rw[hD i' e]at h1;exact .inl ⟨i',fu,rfl,h1⟩
  ·rintro⟨i',fu,rfl,h1⟩;by_cases e:i'=i
   ·subst e;rcases Sd (B:=λb=>(D i').F b/\¬(D i').O b) (E:=λb=>w.heap.size<=b) (λb ⟨hb,nA⟩=>(jK b hb).imp (λx=>⟨x,λy=>nA (hO b y)⟩) id) h1 with h2|h2
    ·exact .inl ⟨i',fu,rfl,h2⟩
    ·exact .inr (Ra h.seen h2 λ_ x=>x)
   ·rw[hD i' e]at h1;exact .inl ⟨i',fu,rfl,h1⟩
  ·rintro⟨i',fu,rfl,h1⟩;by_cases e:i'=i
   ·subst e;refine⟨i',fu,rfl,h1.imp (λx=>?_) id⟩;cases l with
    |cell a=>exact hO _ x
    |obj r=>exact hO _ x
    |_=>exact x.elim
   ·exact⟨i',fu,rfl,by rw[hD i' e];exact h1⟩
  ·rintro⟨i',fu,rfl,h1⟩;by_cases e:i'=i
   ·subst e;have key:∀b,((D i').F b/\¬(D i').O b)->((D' i').F b/\¬(D' i').O b):=λb ⟨x,y⟩=>⟨hF b x,λz=>(uL b z).elim y λv=>by have:=nJ b x;omega⟩
    refine⟨i',fu,rfl,?_⟩;cases l with
    |cell a=>exact key _ h1
    |obj r=>exact key _ h1
    |_=>exact h1.elim
   ·exact⟨i',fu,rfl,by rw[hD i' e];exact h1⟩
 refine⟨grow.appW A (k:=o+i) (by omega) (by omega) λop dZ=>⟨hg op dZ,λx hx=>?_⟩,h.norel.app hn,GU h.hand λop dZ=>.inr (.inl (by rw[hg op dZ];omega)),Hl h.known λop dZ x hx=>?_,Cw h.mem λop dZ x hx=>(hk op dZ x hx).1,λop dZ=>?_⟩
 ·rcases(hk op dZ x hx).2 with⟨h1,h2⟩|⟨h1,h2⟩
  ·exact .inl ⟨h1,by rw[h2];simp,by rw[h2];simp⟩
  ·exact .inr h2
 ·rcases(hk op dZ x hx).2 with h1|⟨h1,_⟩
  ·exact .inr (.inl h1)
  ·exact .inr (.inr ⟨by rw[hg op dZ];omega,by rw[h1];simp⟩)
 ·rcases bX.1 dZ with h'|h'
  ·exact(h.seen op h').mono eY
  ·exact hl op h'
theorem wz.app0 (h:wz o Wg C SB j D w t) (A:Apart (ShP Wg SB) (oW o C j D) (RdD o j D)) (eY:w.heap.size<=w'.heap.size) (fJ:∀op∈u,Ok0 (ShP Wg SB) (oW o C j D) (RdD o j D) (o-1+j) op)
  (hm:∀op∈u,∀x,op.act.touch?=some x->x.loc.isMemory=true) (hn:∀op∈u,op.act≠.mark (.release (stA Wg))) (hl:∀op∈u,mZ w'.heap.size op.act):wz o Wg C SB j D w' (t++u):=by
 refine⟨h.ct.app0 A fJ,h.norel.app hn,GU h.hand λop dZ=>.inl (fJ op dZ).1,Hl h.known λop dZ x _=>.inl (fJ op dZ).1,Cw h.mem hm,λop dZ=>?_⟩;rcases bX.1 dZ with h'|h'
 ·exact(h.seen op h').mono eY
 ·exact hl op h'
end
end
section
open Go Go.Conc Go.ConcN Sim
def RL (N:Nat) (f g:Nat->Rank):Prop:= ∃i,i<N/\Rank.sub (f i) (g i)/\∀k,k≠i->f k=g k
theorem RL.wf (N:Nat):WellFounded (RL N):=by
 induction N with
 |zero=>exact⟨λg=>⟨_,λf ⟨i,hi,_⟩=>absurd hi (aw i)⟩⟩
 |succ N ih=>
  have key:∀r:Rank,∀g:Nat->Rank,g N=r->Acc (RL (N+1)) g:=by
   intro r;induction r using Rank.wf.induction with
   |_ r ihr=>
    intro g hg;have inner:∀g:Nat->Rank,g N=r->Acc (RL (N+1)) g:=by
     intro g;induction g using ih.induction with
     |_ g ihg=>
      intro hg;refine⟨_,λf ⟨i,hi,hs,he⟩=>?_⟩;by_cases e:i=N
      ·subst e;exact ihr (f i) (hg▸hs) f rfl
      ·exact ihg f ⟨i,by omega,hs,he⟩ ((he N (λh=>e h.symm)).trans hg)
    exact inner g hg
  exact⟨λg=>key _ g rfl⟩
abbrev Mea:=Nat×(Nat->Rank)×Nat
def MLt (N:Nat):Mea->Mea->Prop:=Prod.Lex (· <·) (Prod.Lex (RL N) (· <·))
theorem MLt.wf (N:Nat):WellFounded (MLt N):=(Prod.lex Nat.lt_wfRel (Prod.lex ⟨RL N,RL.wf N⟩ Nat.lt_wfRel)).wf
end
section
open Go Go.Conc Go.ConcN Sim
open Go.ConcR (KK WgAt stA smA rd wr mk Payload DC0 g_of_ofEvents)
section
variable [Payload]
section
variable {P:az} {ty:aM} {o Wg C n:Nat} {SB:Blocks} {qy:Nat->Blocks->aN->ag->Prop} {j:Nat} {gs:Array aa} {w w':ag} {t:aG} {D:Nat->WX} {q:Nat->Nat} {d0:Nat} {FM OM:Blocks}
theorem WS.rely (ja:∀i F v w w1,qy i F v w->Ext F w w1->qy i F v w1) {d:WX} (h:WS P ty Wg C n qy i d g w) (e:Ext d.F w w') (r:RW ty Wg C n 0 i w w'):WS P ty Wg C n qy i d g w':=by
 cases h with
 |own h1 h2 h3 h=>exact .own h1 h2 h3 (h.ext e)
 |lib h hr=>exact .lib (h.rely (by simpa using r)) (ja _ _ _ _ _ hr e)
theorem WS.status {d:WX} (h:WS P ty Wg C n qy i d g w):g.status=.running\/g.status=.finished:=by
 cases h with
 |own h1 h2 h3 h=>exact .inl (J8 (λ_ _ _ _ x=>x.1) h)
 |lib h hr=>exact h.status
theorem WS.woken {d:WX} (h:WS P ty Wg C n qy i d g w) (a a':aa) (w1:ag):woken P a a' w1 g=g:=by
 unfold Go.Conc.woken;split
 ·exact again_running _ h.status
 ·rfl
theorem gW.stepW (ja:∀i F v w w1,qy i F v w->Ext F w w1->qy i F v w1) (h:gW P ty o Wg C n SB qy j gs w t D q d0) (S:Sep Wg C SB j D FM OM w) (hi:i<j) {pos:String} {x:WX}
  (S':Sep Wg C SB j (upd D i x) FM OM w')
  (iw:∀i',i'<j->i'≠i->Ext (D i').F w w'/\RW ty Wg C n 0 i' w w') (mJ:WS P ty Wg C n qy i x g' w') (eY:w.heap.size<=w'.heap.size)
  (hF:∀b,(D i).F b->x.F b) (hO:∀b,(D i).O b->x.O b) (jK:∀b,x.F b->(D i).F b\/w.heap.size<=b) (uL:∀b,x.O b->(D i).O b\/w.heap.size<=b)
  (hk:∀e∈es,∀y,(ai e).touch?=some y->y.loc.isMemory=true/\((ShP Wg SB y.loc/\y.kind=.atomic)\/(y.kind=.plain/\(oW o C j (upd D i x) (o+i) y.loc\/(RdD o j (upd D i x) (o+i) y.loc/\y.write=false)))))
  (xB:∀e∈es,e.loc≠.mark (.release (stA Wg))) (hl:∀e∈es,mZ w'.heap.size (ai e))
  (uW:aA (D i).deaf es=x.deaf) (hrel:x.stage<=6->∃r,RelBy (stA Wg) (t++ax (o+i) fn pos es) (o+i) r)
  (jQ:x.stage<=6->Has C i x.val w') (lG:cg C n w'):
  gW P ty o Wg C n SB qy j ((gs.map (woken P g g' w')).setIfInBounds (o+i) g') w' (t++ax (o+i) fn pos es) (upd D i x) q d0:=by
 have dZ:=h.tH;have ne:∀k,k≠o+i->Deaf (t++ax (o+i) fn pos es) k=Deaf t k:=λk hk=>bz t (λe=>hk e.symm) _ g_of_ofEvents;refine⟨by simp[h.size],λi' g1 h0 eB kI=>?_,λi' fu=>?_,?_,by rw[ne 0 (by omega),h.deaf0],λi' fu=>?_,λk ol=>by rw[ne k (by omega)];exact h.above k ol,λi' fu hst=>?_,λi' fu hst=>?_,lG,dZ⟩
 ·rw[bo _ _ _ _ (by omega)]at kI;obtain⟨y,hy,rfl⟩:=au.1 kI;have hq:=h.old i' y h0 eB hy;rw[bJ hq,ne i' (by omega)];exact hq
 ·by_cases e:i'=i
  ·subst e;exact⟨g',bB _ _ _ (by rw[h.size];omega),by rw[am];exact mJ⟩
  ·obtain⟨y,hy,vL⟩:=h.wk i' fu;refine⟨y,by rw[bo _ _ _ _ (by omega),hy,bY,vL.woken],?_⟩;rw[aC D _ e];exact vL.rely ja (iw i' fu e).1 (iw i' fu e).2
 ·refine h.tr.appW S'.own hi dZ eY (λi' e=>aC D _ e) (by rw[am];exact hF) (by rw[am];exact hO) (by rw[am];exact jK) (by rw[am];exact uL) (λb hb=>(S.wF i hi b hb).1) g_of_ofEvents (λop fD y hy=>?_) (norel_of xB) (λop fD=>?_)
  ·obtain⟨e,he,rfl⟩:=aj fD;exact hk e he y hy
  ·obtain⟨e,he,rfl⟩:=aj fD;exact hl e he
 ·by_cases e:i'=i
  ·subst e;rw[Deaf_own,h.deafW i' fu,am];exact uW
  ·rw[ne _ (by omega),h.deafW i' fu,aC D _ e]
 ·by_cases e:i'=i
  ·subst e;rw[am]at hst;exact hrel hst
  ·rw[aC D _ e]at hst;obtain⟨r,hr⟩:=h.rel i' fu hst;exact⟨r,hr.appOther g_of_ofEvents (by omega)⟩
 ·by_cases e:i'=i
  ·subst e;rw[am]at hst⊢;exact jQ hst
  ·rw[aC D _ e]at hst⊢;exact(iw i' fu e).2.cell.trans (h.has i' fu hst)
theorem gW.step0 (ja:∀i F v w w1,qy i F v w->Ext F w w1->qy i F v w1) (h:gW P ty o Wg C n SB qy j gs w t D q d0) (S:Sep Wg C SB j D FM OM w) {a:aa} {pos:String}
  (iw:∀i,i<j->Ext (D i).F w w'/\RW ty Wg C n 0 i w w') (eY:w.heap.size<=w'.heap.size)
  (fJ:∀op∈ax 0 fn pos es,Ok0 (ShP Wg SB) (oW o C j D) (RdD o j D) (o-1+j) op) (hm:∀e∈es,∀y,(ai e).touch?=some y->y.loc.isMemory=true)
  (xB:∀e∈es,e.loc≠.mark (.release (stA Wg))) (hl:∀e∈es,mZ w'.heap.size (ai e)) (lG:cg C n w'):
  gW P ty o Wg C n SB qy j ((gs.map (woken P a a' w')).setIfInBounds 0 a') w' (t++ax 0 fn pos es) D q (aA d0 es):=by
 have dZ:=h.tH;have ne:∀k,k≠0->Deaf (t++ax 0 fn pos es) k=Deaf t k:=λk hk=>bz t (λe=>hk e.symm) _ g_of_ofEvents;refine⟨by simp[h.size],λi' g1 h0 eB kI=>?_,λi' fu=>?_,?_,by rw[Deaf_own,h.deaf0],λi' fu=>by rw[ne _ (by omega),h.deafW i' fu],λk ol=>by rw[ne k (by omega)];exact h.above k ol,λi' fu hst=>?_,λi' fu hst=>(iw i' fu).2.cell.trans (h.has i' fu hst),lG,dZ⟩
 ·rw[bo _ _ _ _ (by omega)]at kI;obtain⟨y,hy,rfl⟩:=au.1 kI;have hq:=h.old i' y h0 eB hy;rw[bJ hq,ne i' (by omega)];exact hq
 ·obtain⟨y,hy,vL⟩:=h.wk i' fu;exact⟨y,by rw[bo _ _ _ _ (by omega),hy,bY,vL.woken],vL.rely ja (iw i' fu).1 (iw i' fu).2⟩
 ·refine h.tr.app0 S.own eY fJ (λop fD y hy=>?_) (norel_of xB) (λop fD=>?_)
  ·obtain⟨e,he,rfl⟩:=aj fD;exact hm e he y hy
  ·obtain⟨e,he,rfl⟩:=aj fD;exact hl e he
 ·obtain⟨r,hr⟩:=h.rel i' fu hst;exact⟨r,hr.appOther g_of_ofEvents (by omega)⟩
theorem gW.q6v (h:gW P ty o Wg C n SB qy j gs w t D q d0) (S:Sep Wg C SB j D FM OM w) {k:Nat} (k0:0<k) (ko:k<o) {pos:String} {q1:Nat}
  (hm:∀e∈es,e.mute=true) (hq:QuitsD P q1 (aA (Deaf t k) es) g'):
  gW P ty o Wg C n SB qy j ((gs.map (woken P g g' w)).setIfInBounds k g') w (t++ax k fn pos es) D (upd q k q1) d0:=by
 have dZ:=h.tH;have ne:∀k',k'≠k->Deaf (t++ax k fn pos es) k'=Deaf t k':=λk' hk=>bz t (λe=>hk e.symm) _ g_of_ofEvents;have quiet:∀op∈ax k fn pos es,op.act.touch?=none:=λop fD=>by obtain⟨e,he,rfl⟩:=aj fD;exact touch_mute (hm e he)
 refine⟨by simp[h.size],λi' g1 h0 eB kI=>?_,λi' fu=>?_,?_,by rw[ne 0 (by omega),h.deaf0],λi' fu=>by rw[ne _ (by omega),h.deafW i' fu],λk' ol=>by rw[ne k' (by omega)];exact h.above k' ol,λi' fu hst=>?_,h.has,h.pay,dZ⟩
 ·by_cases e:i'=k
  ·subst e;rw[bB _ _ _ (by rw[h.size];omega)]at kI;cases kI;rw[am,Deaf_own];exact hq
  ·rw[bo _ _ _ _ (λx=>e x.symm)]at kI;obtain⟨y,hy,rfl⟩:=au.1 kI;have hq:=h.old i' y h0 eB hy;rw[bJ hq,ne i' e,aC q _ e];exact hq
 ·obtain⟨y,hy,vL⟩:=h.wk i' fu;exact⟨y,by rw[bo _ _ _ _ (by omega),hy,bY,vL.woken],vL⟩
 ·have A:=S.own (o:=o);refine⟨h.tr.ct.appW A (k:=k) (by omega) (by omega) λop fD=>⟨g_of_ofEvents op fD,λx hx=>by rw[quiet op fD]at hx;cases hx⟩,h.tr.norel.app (norel_of λe he hl=>(by have:=hm e he;obtain⟨l,_,_⟩:=e;have hl:l=_:=hl;subst hl;cases this)),GU h.tr.hand λop fD=>.inr (.inr (quiet op fD)),
   Hl h.tr.known λop fD x hx=>(by rw[quiet op fD]at hx;cases hx),Cw h.tr.mem λop fD x hx=>(by rw[quiet op fD]at hx;cases hx),Hf h.tr.seen λop fD=>by obtain⟨e,he,rfl⟩:=aj fD;exact Aq (low_mute (hm e he) _)⟩
 ·obtain⟨r,hr⟩:=h.rel i' fu hst;exact⟨r,hr.appOther g_of_ofEvents (by omega)⟩
theorem gW.at (ja:∀i F v w w1,qy i F v w->Ext F w w1->qy i F v w1) (h:gW P ty o Wg C n SB qy j gs w t D q d0) (d:Nat):gW P ty o Wg C n SB qy j gs (w.at d) t D q d0:=
 ⟨h.size,h.old,λi hi=>let⟨g,hg,hs⟩:=h.wk i hi;⟨g,hg,hs.rely ja ⟨jd _,λ_ _=>rfl⟩ (RW.at w d)⟩,⟨h.tr.ct,h.tr.norel,h.tr.hand,h.tr.known,h.tr.mem,h.tr.seen⟩,h.deaf0,h.deafW,h.above,h.rel,h.has,h.pay,h.tH⟩
end
end
section
variable [Payload]
section
variable {P:az} {ty:aM} {o Wg C n:Nat} {SB:Blocks} {qy:Nat->Blocks->aN->ag->Prop} {j:Nat} {gs:Array aa} {w:ag} {t:aG} {D:Nat->WX} {q:Nat->Nat} {FM OM:Blocks}
theorem gW.spawn (h:gW P ty o Wg C n SB qy j gs w t D q 0) {x:WX} (S':Sep Wg C SB (j+1) (upd D j x) FM OM w) {child:aa} (h9:x.stage=9) (hx:x.deaf=0) (hs:WS P ty Wg C n qy j x child w) {pos:String} {fn':bd} {pos':String}:
  gW P ty o Wg C n SB qy (j+1) ((gs.setIfInBounds 0 a').push child) w (t++#[{g:=0,fn,pos,act:=.go (o+j)},{g:=o+j,fn:=fn',pos:=pos',act:=.start}]) (upd D j x) q 0:=by
 have dZ:=h.tH;have quiet:∀op∈(#[{g:=0,fn,pos,act:=.go (o+j)},{g:=o+j,fn:=fn',pos:=pos',act:=.start}]:aG),op.act.touch?=none/\(op.g=0\/op.g=o+j)/\op.act≠.mark (.release (stA Wg))/\mZ w.heap.size op.act:=λop fD=>by
  simp only[bh,List.mem_cons,List.not_mem_nil,or_false]at fD;rcases fD with rfl|rfl
  ·exact⟨rfl,.inl rfl,by simp,Aq trivial⟩
  ·exact⟨rfl,.inr rfl,by simp,Aq trivial⟩
 have deaf:∀k,Deaf (t++#[{g:=0,fn,pos,act:=.go (o+j)},{g:=o+j,fn:=fn',pos:=pos',act:=.start}]) k=Deaf t k:=λk=>by
  have:=Deaf_append t k [{g:=0,fn,pos,act:=.go (o+j)},{g:=o+j,fn:=fn',pos:=pos',act:=.start}];rw[show(#[{g:=0,fn,pos,act:=.go (o+j)},{g:=o+j,fn:=fn',pos:=pos',act:=.start}]:aG)=[{g:=0,fn,pos,act:=.go (o+j)},{g:=o+j,fn:=fn',pos:=pos',act:=.start}].toArray from rfl,this];simp[deafStep]
 have Uj:∀(i:Nat),i<j->i≠j:=λi hi=>Nat.ne_of_lt hi;refine⟨by simp[h.size];omega,λi' g1 h0 eB kI=>?_,λi' fu=>?_,?_,by rw[deaf,h.deaf0],λi' fu=>?_,λk hk=>by rw[deaf];exact h.above k (by omega),λi' fu hst=>?_,λi' fu hst=>?_,h.pay,dZ⟩
 ·have iC:i'<(gs.setIfInBounds 0 a').size:=by simp[h.size];omega
  rw[bw iC]at kI;have iq:gs[i']?=some g1:=by
   rw[<-kI,<-aI iC,xne (by omega)]
  rw[deaf];exact h.old i' g1 h0 eB iq
 ·by_cases e:i'=j
  ·subst e;refine⟨child,?_,by rw[am];exact hs⟩;have:o+i'=(gs.setIfInBounds 0 a').size:=by simp[h.size]
   rw[this];exact Array.getElem?_push_size
  ·obtain⟨y,hy,vL⟩:=h.wk i' (by omega);refine⟨y,?_,by rw[aC D _ e];exact vL⟩;have iC:o+i'<(gs.setIfInBounds 0 a').size:=by simp[h.size];omega
   rw[bw iC,<-aI iC,xne (by omega)];exact hy
 ·have same:∀k l,k<=o-1+j->(oW o C (j+1) (upd D j x) k l↔oW o C j D k l)/\(RdD o (j+1) (upd D j x) k l↔RdD o j D k l):=by
   intro k l hk;refine⟨⟨?_,?_⟩,⟨?_,?_⟩⟩
   ·rintro⟨i,hi,rfl,h1⟩;have e:i≠j:=by omega
    rw[aC D _ e]at h1;exact⟨i,by omega,rfl,h1⟩
   ·rintro⟨i,hi,rfl,h1⟩;exact⟨i,by omega,rfl,by rw[aC D _ (Uj i hi)];exact h1⟩
   ·rintro⟨i,hi,rfl,h1⟩;have e:i≠j:=by omega
    rw[aC D _ e]at h1;exact⟨i,by omega,rfl,h1⟩
   ·rintro⟨i,hi,rfl,h1⟩;exact⟨i,by omega,rfl,by rw[aC D _ (Uj i hi)];exact h1⟩
  have Bz:=h.tr.ct;have ct1:CT (ShP Wg SB) (oW o C (j+1) (upd D j x)) (RdD o (j+1) (upd D j x)) t (o-1+j):=
   ⟨Bz.quiet,λk k1 kj l hl=>Bz.own k k1 kj l ((same k l kj).1.1 hl),λk k1 kj l hl=>Bz.rd k k1 kj l ((same k l kj).2.1 hl),
    λl hs hl=>Bz.free l hs λk k1 kj=>⟨λy=>(hl k k1 kj).1 ((same k l kj).1.2 y),λy=>(hl k k1 kj).2 ((same k l kj).2.2 y)⟩,λl hs hl=>Bz.mine l hs λk k1 kj y=>hl k k1 kj ((same k l kj).1.2 y),Bz.nr,Bz.gs⟩
  have e1:o-1+j+1=o+j:=by omega
  have ct2:=CT.fork S'.own ct1 (x:={g:=0,fn,pos,act:=.go (o+j)}) (y:={g:=o+j,fn:=fn',pos:=pos',act:=.start}) ⟨rfl,by rw[e1]⟩ ⟨by rw[e1],rfl⟩ h.deaf0;refine⟨ct2,h.tr.norel.app λop fD=>(quiet op fD).2.2.1,GU h.tr.hand λop fD=>.inr (.inr (quiet op fD).1),Hl h.tr.known λop fD y hy=>(by rw[(quiet op fD).1]at hy;cases hy),Cw h.tr.mem λop fD y hy=>(by rw[(quiet op fD).1]at hy;cases hy),Hf h.tr.seen λop fD=>(quiet op fD).2.2.2⟩
 ·by_cases e:i'=j
  ·subst e;rw[deaf,am,hx];exact h.above _ (jd _)
  ·rw[deaf,h.deafW i' (by omega),aC D _ e]
 ·by_cases e:i'=j
  ·subst e;rw[am]at hst;omega
  ·rw[aC D _ e]at hst;obtain⟨r,hr⟩:=h.rel i' (by omega) hst;refine⟨r,hr.app λi hi hg hc=>?_⟩;obtain⟨y,hy,_⟩:=hc;obtain⟨op,fD,U1⟩:=bZ hy;rcases aW fD with⟨eB,_⟩|⟨_,MN⟩
   ·omega
   ·rw[(quiet op MN).1]at U1;cases U1
 ·by_cases e:i'=j
  ·subst e;rw[am]at hst;omega
  ·rw[aC D _ e]at hst⊢;exact h.has i' (by omega) hst
end
end
def JT (n:Nat):Tag->Nat->Prop
 |.wg r,j=>j+r=n
 |.kdS r,j|.ad r,j|.rs r,j|.en r,j|.gos r,j=>j+r+1=n
 |_,j=>j=n
def iA (j:Nat) (D:Nat->WX):Nat:=sumTo j λi=>(D i).stage
def jF (j:Nat) (D:Nat->WX):Nat:=sumTo j λi=>(D i).fuel
def ranks (n:Nat) (D:Nat->WX) (rk:Rank):Nat->Rank:=λi=>if i=n then rk else(D i).rank
structure Kept (Wg C L0:Nat) (w0:ag) (j:Nat) (D:Nat->WX) (OM:Blocks) (w:ag):Prop where
 keep:∀b,b<L0->w.heap[b]?=w0.heap[b]?
 lW:L0<=Wg
 lC:L0<=C
 lO:∀i,i<j->∀b,(D i).O b->L0<=b
 lM:∀b,OM b->L0<=b
 tape:w.tape=w0.tape
 os:w.os=w0.os
 output:w.output=w0.output
 nb:NB w0->NB w
theorem H6 {b:Nat} (_:∀r,r≠b->w'.heap[r]?=w.heap[r]?) (_:∃c e z,w'.heap[b]?=some (.cells c e z)) (_:NB w):NB w':=trivial
section
variable [Payload] (P:az) (ty:aM) (o Wg C n:Nat) (SB:Blocks) (qy:Nat->Blocks->aN->ag->Prop) (K:aa->ag->Prop) (L0:Nat) (w0:ag)
def rD (μ:Mea) (m:Machine) (t:aG):Prop:=
 ∃(gs:Array aa) (w:ag) (sl:Option (Nat×Nat)) (j:Nat) (D:Nat->WX) (q:Nat->Nat) (tag:Tag) (f0 d0:Nat) (rk:Rank) (FM OM:Blocks) (a:aa) (st sm:Int),
  m=crowd gs w sl/\gs[0]?=some a/\MS P ty Wg C n qy K tag f0 d0 rk FM OM a w/\gW P ty o Wg C n SB qy j gs w t D q d0/\Sep Wg C SB j D FM OM w/\WgAt ty Wg w st sm/\Mo j (xd D) tag st sm/\JT n tag j/\
  Kept Wg C L0 w0 j D OM w/\μ=(psi n (Vc j (xd D)) tag+iA j D,ranks n D rk,f0+2*jF j D+2*sumTo o q)
end
theorem JT.retag {tag tag':Tag} (h:JT n tag j) (e:tag'=tag\/(tag=.blk/\tag'=.sm)):JT n tag' j:=by
 rcases e with rfl|⟨rfl,rfl⟩
 ·exact h
 ·exact h
theorem RG (n v:Nat) {tag tag':Tag} (e:tag'=tag\/(tag=.blk/\tag'=.sm)):psi n v tag'=psi n v tag:=by
 rcases e with rfl|⟨rfl,rfl⟩<;>rfl
theorem q07 (n:Nat) {v v':Nat} (h:v'<=v) (tag:Tag):psi n v' tag<=psi n v tag:=by
 cases tag<;>simp only[psi]<;>omega
theorem JT.le {tag:Tag} (h:JT n tag j):j<=n:=by
 cases tag<;>simp only[JT]at h<;>omega
section
variable [Payload] {P:az} {ty:aM} {o Wg C n:Nat} {SB:Blocks} {qy:Nat->Blocks->aN->ag->Prop} {K:aa->ag->Prop} {L0:Nat} {w0:ag} {gs:Array aa} {w w':ag} {sl:Option (Nat×Nat)} {j:Nat} {D:Nat->WX} {q:Nat->Nat} {tag:Tag} {f0 d0:Nat} {rk:Rank} {FM OM:Blocks} {a:aa} {t:aG}
theorem workerStep (ja:∀i F v w w1,qy i F v w->Ext F w w1->qy i F v w1) (ha:gs[0]?=some a) (jN:MS P ty Wg C n qy K tag f0 d0 rk FM OM a w) (dV:gW P ty o Wg C n SB qy j gs w t D q d0) (S:Sep Wg C SB j D FM OM w) (fC:JT n tag j) (fe:Kept Wg C L0 w0 j D OM w) (hi:i<j) {x:WX} {st' sm':Int} (hg:gs[o+i]?=some g) (hgo:ay P false g w=.go g' w' es)
  (S':Sep Wg C SB j (upd D i x) FM OM w') (hRM:RM ty Wg FM w w')
  (iw:∀i',i'<j->i'≠i->Ext (D i').F w w'/\RW ty Wg C n 0 i' w w') (mJ:WS P ty Wg C n qy i x g' w') (eY:w.heap.size<=w'.heap.size)
  (hF:∀b,(D i).F b->x.F b) (hO:∀b,(D i).O b->x.O b) (jK:∀b,x.F b->(D i).F b\/w.heap.size<=b) (uL:∀b,x.O b->(D i).O b\/w.heap.size<=b)
  (hk:∀e∈es,∀y,(ai e).touch?=some y->y.loc.isMemory=true/\((ShP Wg SB y.loc/\y.kind=.atomic)\/(y.kind=.plain/\(oW o C j (upd D i x) (o+i) y.loc\/(RdD o j (upd D i x) (o+i) y.loc/\y.write=false)))))
  (xB:∀e∈es,e.loc≠.mark (.release (stA Wg))) (hl:∀e∈es,mZ w'.heap.size (ai e))
  (uW:aA (D i).deaf es=x.deaf) (hrel:x.stage<=6->∃r,RelBy (stA Wg) (t++ax (o+i) g.frame.fn g.frame.place es) (o+i) r)
  (jQ:x.stage<=6->Has C i x.val w') (lG:cg C n w') (fq:WgAt ty Wg w' st' sm')
  (dQ:∀tag',(tag'=tag\/(tag=.blk/\tag'=.sm))->(mayWake P g=true->g'.status=.running->tag'≠.blk)->Mo j (xd (upd D i x)) tag' st' sm')
  (pU:Kept Wg C L0 w0 j (upd D i x) OM w')
  (eB:(x.stage<(D i).stage/\cnt (xd (upd D i x) i)<=cnt (xd D i))\/(x.stage=(D i).stage/\Rank.sub x.rank (D i).rank)\/(x.stage=(D i).stage/\x.rank=(D i).rank/\x.fuel+1=(D i).fuel)):
  ∃m₁ ops μ',runT P (crowd gs w sl) (o+i)=(.next m₁,ops)/\MLt (n+1) μ' (psi n (Vc j (xd D)) tag+iA j D,ranks n D rk,f0+2*jF j D+2*sumTo o q)/\rD P ty o Wg C n SB qy K L0 w0 μ' m₁ (t++ops):=by
 have dZ:=dV.tH;have EZ:=fC.le;obtain⟨tag',f',tJ,Bo,qB,I4⟩:=jN.wokenBy hRM g g';have eT:=br (P:=P) (sl:=sl) (i:=o+i) hg (by rw[show(o+i==0)=false from by simp;omega];exact hgo);have gK:=dV.stepW (fn:=g.frame.fn) (pos:=g.frame.place) ja S hi S' iw mJ eY hF hO jK uL hk xB hl uW hrel jQ lG (g:=g);refine⟨_,_,_,eT,?_,_,w',sl,j,upd D i x,q,tag',f',d0,rk,FM,OM,woken P g g' w' a,st',sm',rfl,by rw[bo _ _ _ _ (by omega),ha];rfl,tJ,gK,S',fq,dQ tag' qB I4,fC.retag qB,pU,rfl⟩;rw[RG n _ qB];have e1:=sumTo_upd D x (λd:WX=>cnt ⟨if d.stage=9 then 7 else d.stage,d.fuel,d.deaf⟩) hi;have e2:=sumTo_upd D x WX.stage hi;have e3:=sumTo_upd D x WX.fuel hi;have c1:cnt (xd (upd D i x) i)=cnt ⟨if x.stage=9 then 7 else x.stage,x.fuel,x.deaf⟩:=by simp only[xd,am]
 have v1:Vc j (xd (upd D i x))=sumTo j λa=>cnt ⟨if(upd D i x a).stage=9 then 7 else(upd D i x a).stage,(upd D i x a).fuel,(upd D i x a).deaf⟩:=rfl;have v2:Vc j (xd D)=sumTo j λa=>cnt ⟨if(D a).stage=9 then 7 else(D a).stage,(D a).fuel,(D a).deaf⟩:=rfl;rcases eB with⟨h1,h2⟩|⟨h1,h2⟩|⟨h1,h2,h3⟩
 ·refine bk _ _ ?_;rw[c1]at h2;have h2':cnt ⟨if x.stage=9 then 7 else x.stage,x.fuel,x.deaf⟩<=cnt ⟨if(D i).stage=9 then 7 else(D i).stage,(D i).fuel,(D i).deaf⟩:=h2;have:=q07 n (v':=Vc j (xd (upd D i x))) (v:=Vc j (xd D)) (by rw[v1,v2];omega) tag;simp only[iA];omega
 ·have ec:cnt ⟨if x.stage=9 then 7 else x.stage,x.fuel,x.deaf⟩=cnt ⟨if(D i).stage=9 then 7 else(D i).stage,(D i).fuel,(D i).deaf⟩:=by simp only[cnt,h1]
  have ev:Vc j (xd (upd D i x))=Vc j (xd D):=by rw[v1,v2];omega
  have es:iA j (upd D i x)=iA j D:=by simp only[iA];omega
  rw[ev,es];refine aV _ (bk _ _ ⟨i,by omega,?_,λk hk=>?_⟩)
  ·simp only[ranks,am];rw[if_neg (by omega),if_neg (by omega)];exact h2
  ·simp only[ranks];rw[aC D _ hk]
 ·have ec:cnt ⟨if x.stage=9 then 7 else x.stage,x.fuel,x.deaf⟩=cnt ⟨if(D i).stage=9 then 7 else(D i).stage,(D i).fuel,(D i).deaf⟩:=by simp only[cnt,h1]
  have ev:Vc j (xd (upd D i x))=Vc j (xd D):=by rw[v1,v2];omega
  have es:iA j (upd D i x)=iA j D:=by simp only[iA];omega
  have er:ranks n (upd D i x) rk=ranks n D rk:=by
   funext k;simp only[ranks];by_cases e:k=i
   ·subst e;rw[am,h2]
   ·rw[aC D _ e]
  rw[ev,es,er];refine aV _ (aV _ ?_);simp only[jF];omega
end
section
variable [Payload] {P:az} {ty:aM} {o Wg C n:Nat} {SB:Blocks} {qy:Nat->Blocks->aN->ag->Prop} {K:aa->ag->Prop} {L0:Nat} {w0:ag} {gs:Array aa} {w w':ag} {sl:Option (Nat×Nat)} {j:Nat} {D:Nat->WX} {q:Nat->Nat} {tag:Tag} {f0 d0:Nat} {rk:Rank} {FM OM:Blocks} {a:aa} {t:aG}
theorem callerStep (ja:∀i F v w w1,qy i F v w->Ext F w w1->qy i F v w1) (ha:gs[0]?=some a) (dV:gW P ty o Wg C n SB qy j gs w t D q d0) (S:Sep Wg C SB j D FM OM w) {tag':Tag} {f':Nat} {zW:Rank} {vW vU:Blocks} {st' sm':Int} (hgo:ay P true a w=.go a' w' es)
  (tJ:MS P ty Wg C n qy K tag' f' (aA d0 es) zW vW vU a' w') (S':Sep Wg C SB j D vW vU w')
  (iw:∀i,i<j->Ext (D i).F w w'/\RW ty Wg C n 0 i w w') (eY:w.heap.size<=w'.heap.size)
  (fJ:∀op∈ax 0 a.frame.fn a.frame.place es,Ok0 (ShP Wg SB) (oW o C j D) (RdD o j D) (o-1+j) op) (hm:∀e∈es,∀y,(ai e).touch?=some y->y.loc.isMemory=true)
  (xB:∀e∈es,e.loc≠.mark (.release (stA Wg))) (hl:∀e∈es,mZ w'.heap.size (ai e)) (lG:cg C n w')
  (fq:WgAt ty Wg w' st' sm') (dQ:Mo j (xd D) tag' st' sm') (fC:JT n tag' j) (pU:Kept Wg C L0 w0 j D vU w')
  (eB:psi n (Vc j (xd D)) tag'<psi n (Vc j (xd D)) tag\/(psi n (Vc j (xd D)) tag'=psi n (Vc j (xd D)) tag/\Rank.sub zW rk)\/(psi n (Vc j (xd D)) tag'=psi n (Vc j (xd D)) tag/\zW=rk/\f'<f0)):
  ∃m₁ ops μ',runT P (crowd gs w sl) 0=(.next m₁,ops)/\MLt (n+1) μ' (psi n (Vc j (xd D)) tag+iA j D,ranks n D rk,f0+2*jF j D+2*sumTo o q)/\rD P ty o Wg C n SB qy K L0 w0 μ' m₁ (t++ops):=by
 have dZ:=dV.tH;have EZ:=fC.le;have eT:=br (P:=P) (sl:=sl) (i:=0) ha (show ay P (0==0) a w=_ from hgo);have gK:=dV.step0 (fn:=a.frame.fn) (pos:=a.frame.place) ja S iw eY fJ hm xB hl lG (a:=a) (a':=a');refine⟨_,_,_,eT,?_,_,w',sl,j,D,q,tag',f',aA d0 es,zW,vW,vU,a',st',sm',rfl,bB _ _ _ (by rw[dV.size];omega),tJ,gK,S',fq,dQ,fC,pU,rfl⟩;rcases eB with h|⟨h1,h2⟩|⟨h1,h2,h3⟩
 ·exact bk _ _ (by omega)
 ·rw[h1];refine aV _ (bk _ _ ⟨n,by omega,by simp only[ranks,if_true];exact h2,λk hk=>?_⟩);simp only[ranks];rw[if_neg hk,if_neg hk]
 ·rw[h1,h2];exact aV _ (aV _ (by omega))
theorem q41 (ha:gs[0]?=some a) (jN:MS P ty Wg C n qy K tag f0 d0 rk FM OM a w) (dV:gW P ty o Wg C n SB qy j gs w t D q d0) (S:Sep Wg C SB j D FM OM w) (fC:JT n tag j) (fe:Kept Wg C L0 w0 j D OM w)
  {st sm:Int} (fq:WgAt ty Wg w st sm) (dQ:∀tag',(tag'=tag\/(tag=.blk/\tag'=.sm))->Mo j (xd D) tag' st sm) {k:Nat} (k0:0<k) (ko:k<o) (hg:gs[k]?=some g) (eT:g.status=.running):
  ∃m₁ ops μ',runT P (crowd gs w sl) k=(.next m₁,ops)/\MLt (n+1) μ' (psi n (Vc j (xd D)) tag+iA j D,ranks n D rk,f0+2*jF j D+2*sumTo o q)/\rD P ty o Wg C n SB qy K L0 w0 μ' m₁ (t++ops):=by
 have hq:=dV.old k g k0 ko hg;cases MI:q k with
 |zero=>rw[MI]at hq;rw[hq.1]at eT;cases eT
 |succ q1=>
  rw[MI]at hq;rcases hq with⟨hf,_⟩|⟨_,g',es,hm,BK,Bb⟩
  ·rw[hf]at eT;cases eT
  have oH:=br (P:=P) (sl:=sl) (i:=k) hg (by rw[show(k==0)=false from by simp;omega];exact BK w);obtain⟨tag',f',tJ,Bo,qB,I4⟩:=jN.wokenBy (jf w) g g';refine⟨_,_,_,oH,?_,_,w,sl,j,D,upd q k q1,tag',f',d0,rk,FM,OM,woken P g g' w a,st,sm,rfl,by rw[bo _ _ _ _ (by omega),ha];rfl,tJ,dV.q6v S k0 ko hm Bb,S,fq,dQ tag' qB,fC.retag qB,fe,rfl⟩;rw[RG n _ qB];have Od:sumTo o (upd q k q1)+(q1+1)=sumTo o q+q1:=by
   have:=sumTo_upd q q1 id ko;simpa[MI]using this
  exact aV _ (aV _ (by omega))
end
section
variable [Payload] {P:az} {ty:aM} {o Wg C n:Nat} {SB:Blocks} {qy:Nat->Blocks->aN->ag->Prop} {K:aa->ag->Prop} {L0:Nat} {w0:ag} {gs:Array aa} {w w':ag} {sl:Option (Nat×Nat)} {j:Nat} {D:Nat->WX} {q:Nat->Nat} {tag:Tag} {f0 d0:Nat} {rk:Rank} {FM OM:Blocks} {a:aa} {t:aG} {st sm:Int}
theorem Qm (hW:w'.heap[Wg]?=w.heap[Wg]?) (hC:w'.heap[C]?=w.heap[C]?):RW ty Wg C n 0 i w w':=
 ⟨λb hb=>absurd hb (aw b),λ⟨s,m,h⟩=>⟨s,m,by unfold WgAt at *; rw[hW];exact h⟩,λ⟨cs,h1,h2⟩=>⟨cs,by rw[hC];exact h1,h2⟩,cell_of_block hC i⟩
omit [Payload] in
theorem Mo.congr {D D':Nat->WD} {tag:Tag} (h:∀a,a<j->(D' a).stage=(D a).stage) (hm:Mo j D tag st sm):Mo j D' tag st sm:=by
 have hv:Vc j D'=Vc j D:=sumTo_congr λa ha=>by simp only[cnt,h a ha]
 cases hm with
 |opn h1 h2 h3=>rw[<-hv];exact .opn h1 (λa ha=>by rw[h a ha];exact h2 a ha) (λvs e=>by rw[hv];exact h3 vs e)
 |reg h1 h2 h3=>rw[<-hv];exact .reg h1 (λa ha=>by rw[h a ha];exact h2 a ha) (by rw[hv];exact h3)
 |last L h1 h2 h3 h4=>rw[<-h L h2];exact .last L h1 h2 (by rw[h L h2];exact h3) (λa ha e=>by rw[h a ha];exact h4 a ha e)
 |sema h1 h2=>exact .sema h1 λa ha=>by rw[h a ha];exact h2 a ha
 |fin h1 h2=>exact .fin h1 λa ha=>by rw[h a ha];exact h2 a ha
omit [Payload] in
theorem Mo.retag {D:Nat->WD} {tag tag':Tag} (h:Mo j D tag st sm) (e:tag'=tag\/(tag=.blk/\tag'=.sm)):Mo j D tag' st sm:=by
 rcases e with rfl|⟨rfl,rfl⟩
 ·exact h
 ·cases h with
  |opn h1 _ _=>exact h1.elim
  |reg _ h2 h3=>exact .reg trivial h2 h3
  |last L _ h2 h3 h4=>exact .last L trivial h2 h3 h4
  |sema h1 _=>rcases h1 with h1|h1<;>cases h1
  |fin h1 _=>exact h1.elim
omit [Payload] in
theorem Lb {F O:Blocks} (h:EvF F O e) {y:Touch} (hy:(ai e).touch?=some y):y.loc.isMemory=true/\y.kind=.plain/\sJ F y.loc/\(y.write=true->sJ O y.loc):=by
 obtain⟨loc,wt,sy⟩:=e;cases loc with
 |cell b=>
  obtain⟨h1,h2,h3⟩:=h;have h1:sy=false:=h1;subst h1;rw[cj]at hy;simp only[aP,aE]at hy;subst hy;exact⟨rfl,rfl,h2,h3⟩
 |obj r=>
  obtain⟨h1,h2,h3⟩:=h;have h1:sy=false:=h1;subst h1;have e0:ai ⟨.obj r,wt,false⟩=.access ⟨.obj r,wt,false⟩:=by cases wt<;>rfl
  rw[e0]at hy;simp only[aP,aE]at hy;subst hy;exact⟨rfl,rfl,h2,h3⟩
 |mark m=>
  cases m with
  |noRoom=>simp[ai,aP]at hy
  |_=>exact h.elim
 |_=>exact h.elim
omit [Payload] in
theorem yQ {F O:Blocks} (h:EvF F O e) (hB:∀b,F b->b<B):e.loc≠.mark .disable/\e.loc≠.mark .enable/\e.loc≠.mark (.release (stA Wg))/\(ai e).low B:=by
 have:=Gq (SB:=λ_=>False) h (λ_ _ x=>x) hB;refine⟨this.2.1,this.2.2.1,λhl=>?_,this.2.2.2⟩;obtain⟨loc,wt,sy⟩:=e;have hl:loc=_:=hl;subst hl;exact h
end
section
variable [Payload] {P:az} {ty:aM} {o Wg C n:Nat} {SB:Blocks} {qy:Nat->Blocks->aN->ag->Prop} {K:aa->ag->Prop} {L0:Nat} {w0:ag} {gs:Array aa} {w w':ag} {sl:Option (Nat×Nat)} {j:Nat} {D:Nat->WX} {q:Nat->Nat} {tag:Tag} {f0 d0:Nat} {rk:Rank} {FM OM:Blocks} {a:aa} {t:aG} {st sm:Int}
omit [Payload] in
theorem Sep.stepW (S:Sep Wg C SB j D FM OM w) (hi:i<j) {x:WX} (eY:w.heap.size<=w'.heap.size) (jK:∀b,x.F b->(D i).F b\/w.heap.size<=b) (uL:∀b,x.O b->(D i).O b\/w.heap.size<=b) (fE:∀b,x.O b->x.F b) (nJ:∀b,x.F b->b<w'.heap.size):Sep Wg C SB j (upd D i x) FM OM w':=by
 have lW:=S.lW;have lC:=S.lC;refine⟨λi' fu b hb=>?_,λi' fu b hb=>?_,λi1 i2 h1 h2 eG b hb fO=>?_,λb hb=>?_,λb hb=>?_,xll S.lW eY,xll S.lC eY,λb hb=>xll (S.lS b hb) eY,S.hCW,S.sW,S.sC⟩
 ·by_cases e:i'=i
  ·subst e;rw[am]at hb;refine⟨nJ b hb,?_⟩;rcases jK b hb with h|h
   ·exact(S.wF i' fu b h).2
   ·exact⟨by omega,by omega,λhs=>by have:=S.lS b hs;omega⟩
  ·rw[aC D _ e]at hb;have:=S.wF i' fu b hb;exact⟨by omega,this.2⟩
 ·by_cases e:i'=i
  ·subst e;rw[am]at hb⊢;exact fE b hb
  ·rw[aC D _ e]at hb⊢;exact S.wO i' fu b hb
 ·by_cases e1:i1=i
  ·subst e1;rw[am]at hb;rw[aC D _ (λh=>eG h.symm)]at fO;rcases uL b hb with h|h
   ·exact S.apart _ _ h1 h2 eG b h fO
   ·have:=(S.wF i2 h2 b fO).1;omega
  ·rw[aC D _ e1]at hb;by_cases e2:i2=i
   ·subst e2;rw[am]at fO;rcases jK b fO with h|h
    ·exact S.apart _ _ h1 h2 eG b hb h
    ·have:=(S.wF i1 h1 b (S.wO i1 h1 b hb)).1;omega
   ·rw[aC D _ e2]at fO;exact S.apart _ _ h1 h2 eG b hb fO
 ·have:=S.mF b hb;refine⟨by omega,this.2.1,this.2.2.1,this.2.2.2.1,λi' fu ho=>?_⟩;by_cases e:i'=i
  ·subst e;rw[am]at ho;rcases uL b ho with h|h
   ·exact this.2.2.2.2 i' fu h
   ·omega
  ·rw[aC D _ e]at ho;exact this.2.2.2.2 i' fu ho
 ·have h1:=S.mO b hb;have h2:=S.mF b h1.1;refine⟨h1.1,λi' fu hf=>?_⟩;by_cases e:i'=i
  ·subst e;rw[am]at hf;rcases jK b hf with h|h
   ·exact h1.2 i' fu h
   ·omega
  ·rw[aC D _ e]at hf;exact h1.2 i' fu hf
omit [Payload] in
theorem Kept.stepW (h:Kept Wg C L0 w0 j D OM w) {x:WX} (Jc:L0<=w.heap.size) (F3:∀b,b<L0->w'.heap[b]?=w.heap[b]?) (uL:∀b,x.O b->(D i).O b\/w.heap.size<=b) (ht:w'.tape=w.tape) (hos:w'.os=w.os) (Oj:w'.output=w.output) (nA:NB w->NB w'):Kept Wg C L0 w0 j (upd D i x) OM w':=by
 refine⟨λb hb=>(F3 b hb).trans (h.keep b hb),h.lW,h.lC,λi' fu b hb=>?_,h.lM,ht.trans h.tape,hos.trans h.os,Oj.trans h.output,λx=>nA (h.nb x)⟩;by_cases e:i'=i
 ·subst e;rw[am]at hb;rcases uL b hb with y|y
  ·exact h.lO i' fu b y
  ·omega
 ·rw[aC D _ e]at hb;exact h.lO i' fu b hb
theorem q43 (ja:∀i F v w w1,qy i F v w->Ext F w w1->qy i F v w1) (ha:gs[0]?=some a) (jN:MS P ty Wg C n qy K tag f0 d0 rk FM OM a w) (dV:gW P ty o Wg C n SB qy j gs w t D q d0) (S:Sep Wg C SB j D FM OM w) (fC:JT n tag j) (fe:Kept Wg C L0 w0 j D OM w)
  (fq:WgAt ty Wg w st sm) (dQ:Mo j (xd D) tag st sm) (hi:i<j) (hg:gs[o+i]?=some g) (h9:(D i).stage=9) (hd:(D i).deaf=0) {f:ag->Rank} (MH:(D i).rank=.node f)
  (hw:WGo P false (CF P ty Wg C n qy i) (.node f) (D i).F (D i).O g w):
  ∃m₁ ops μ',runT P (crowd gs w sl) (o+i)=(.next m₁,ops)/\MLt (n+1) μ' (psi n (Vc j (xd D)) tag+iA j D,ranks n D rk,f0+2*jF j D+2*sumTo o q)/\rD P ty o Wg C n SB qy K L0 w0 μ' m₁ (t++ops):=by
 obtain⟨F',O',g',w',es,hgo,ok,pE⟩:=hw.2 w (Ext.refl ..);have lW:=S.lW;have lC:=S.lC;have nO:∀b,(D i).O b->b≠Wg/\b≠C:=λb hb=>⟨(S.wF i hi b (S.wO i hi b hb)).2.1,(S.wF i hi b (S.wO i hi b hb)).2.2.1⟩
 have hW:w'.heap[Wg]?=w.heap[Wg]?:=ok.keep Wg lW λh=>(nO Wg h).1 rfl;have hC:w'.heap[C]?=w.heap[C]?:=ok.keep C lC λh=>(nO C h).2 rfl
 let x:WX:=⟨9,0,0,f w,F',O',(D i).val⟩
 have S':Sep Wg C SB j (upd D i x) FM OM w':=S.stepW hi (x:=x) ok.size ok.new ok.xV ok.own ok.low;have gU:WgAt ty Wg w' st sm:=by unfold WgAt at *; rw[hW];exact fq
 refine workerStep ja ha jN dV S fC fe hi hg hgo (x:=x) S' ⟨⟨ok.size,λb hb=>ok.keep b (S.mF b hb).1 ((S.mF b hb).2.2.2.2 i hi)⟩,λ_=>⟨_,_,gU⟩⟩
  (λi' fu eG=>⟨⟨ok.size,λb hb=>ok.keep b (S.wF i' fu b hb).1 λho=>S.apart i i' hi fu (λe=>eG e.symm) b ho hb⟩,Qm hW hC⟩)
  (.own rfl rfl rfl pE) ok.size ok.sub ok.Mq ok.new ok.xV (λe he y hy=>?_) (λe he=>(yQ (ok.ev e he) ok.low).2.2.1) (λe he=>Aq (yQ (Wg:=Wg) (ok.ev e he) ok.low).2.2.2)
  ?_ (λh=>absurd (show 9<=6 from h) (by decide)) (λh=>absurd (show 9<=6 from h) (by decide)) ?_ gU (λtag' ht _=>(dQ.congr λa' _=>?_).retag ht) ?_ (.inr (.inl ⟨h9.symm,by rw[MH];exact⟨w,rfl⟩⟩))
 ·obtain⟨h1,h2,h3,h4⟩:=Lb (ok.ev e he) hy;refine⟨h1,.inr ⟨h2,?_⟩⟩;by_cases ho:sJ O' y.loc
  ·exact .inl ⟨i,hi,rfl,.inl (by rw[am];exact ho)⟩
  ·refine .inr ⟨⟨i,hi,rfl,?_⟩,by cases hyw:y.write with|false=>rfl|true=>exact absurd (h4 hyw) ho⟩;rw[am];show sJ (λb=>F' b/\¬O' b) y.loc;generalize y.loc=l at h3 ho;cases l with
   |cell c=>exact⟨h3,ho⟩
   |obj c=>exact⟨h3,ho⟩
   |_=>exact h3.elim
 ·rw[hd];exact deafBehind_idle (λe he=>⟨(yQ (Wg:=Wg) (ok.ev e he) ok.low).1,(yQ (Wg:=Wg) (ok.ev e he) ok.low).2.1⟩) 0
 ·obtain⟨cs,h1,h2⟩:=dV.pay;exact⟨cs,by rw[hC];exact h1,h2⟩
 ·by_cases e:a'=i
  ·subst e;simp only[xd,am,h9,x]
  ·simp only[xd];rw[aC D _ e]
 ·exact fe.stepW (x:=x) (xlt fe.lW (bK lW)) (λb hb=>ok.keep b (xll hb (xlt fe.lW (bK lW))) λho=>by have:=fe.lO i hi b ho;omega) ok.xV ok.tape ok.os ok.output ok.nb
end
end
section
open Go Go.Conc Go.ConcN Sim
open Go.ConcR (KK WgAt stA smA rd wr mk Payload DC0 g_of_ofEvents Bk bk_of_mute ofEvent_loc_mark ofEvent_cell)
section
variable [Payload] {C n i:Nat} {w:ag}
theorem ql5 (hp:cg C n w) (v:aN):AsideCell C n i w (w.setCell ⟨C,i,none⟩ v):=by
 have hA:=aL w ⟨C,i,none⟩ v;obtain⟨arr,h1,h2⟩:=hp;have hb:(w.setCell ⟨C,i,none⟩ v).heap[C]?=some (.cells (arr.setIfInBounds i v) Payload.ety):=by
  rw[cq w C i arr _ (0,0) _ h1,setRow_heap w C _ _ _ _ h1]
 refine⟨hA.tape,hA.os,hA.output,hA.size,λb fP=>hA.block b fP,λ_=>⟨_,hb,by simpa using h2⟩,λi' fu=>?_⟩;simp[World.cell?,hb,h1,xne (Ne.symm fu)]
theorem q3r (hp:cg C n w) (hj:i<n) (v:aN):Has C i v (w.setCell ⟨C,i,none⟩ v):=by
 obtain⟨arr,h1,h2⟩:=hp;have hb:(w.setCell ⟨C,i,none⟩ v).heap[C]?=some (.cells (arr.setIfInBounds i v) Payload.ety):=by
  rw[cq w C i arr _ (0,0) _ h1,setRow_heap w C _ _ _ _ h1]
 simp[Has,World.cell?,hb,h2,hj]
omit [Payload] in
theorem q39 (hW:Wg<B) (h:Bk Wg e):mZ B (ai e):=by
 intro y hy;rcases h with h1|h1|⟨a,wr,rfl,ha⟩
 ·rw[ofEvent_loc_mark h1]at hy;cases hy
 ·rw[ofEvent_loc_mark h1]at hy;cases hy
 ·rw[ofEvent_cell]at hy;simp only[aP,aE]at hy;subst hy;show a.block<B;omega
end
section
variable [Payload] {P:az} {ty:aM} {o Wg C n:Nat} {SB:Blocks} {qy:Nat->Blocks->aN->ag->Prop} {K:aa->ag->Prop} {L0:Nat} {w0:ag} {gs:Array aa} {w w':ag} {sl:Option (Nat×Nat)} {j:Nat} {D:Nat->WX} {q:Nat->Nat} {tag:Tag} {f0 d0:Nat} {rk:Rank} {FM OM:Blocks} {a:aa} {t:aG} {st sm:Int}
omit [Payload] in
theorem Sep.same (S:Sep Wg C SB j D FM OM w) (hi:i<j) {x:WX} (hF:x.F=(D i).F) (hO:x.O=(D i).O) (eY:w.heap.size<=w'.heap.size):Sep Wg C SB j (upd D i x) FM OM w':=
 S.stepW hi eY (λb hb=>.inl (hF▸hb)) (λb hb=>.inl (hO▸hb)) (λb hb=>by rw[hF];rw[hO]at hb;exact S.wO i hi b hb) (λb hb=>by rw[hF]at hb;have:=(S.wF i hi b hb).1;omega)
theorem XF (ja:∀i F v w w1,qy i F v w->Ext F w w1->qy i F v w1) (ha:gs[0]?=some a) (jN:MS P ty Wg C n qy K tag f0 d0 rk FM OM a w) (dV:gW P ty o Wg C n SB qy j gs w t D q d0) (S:Sep Wg C SB j D FM OM w) (fC:JT n tag j) (fe:Kept Wg C L0 w0 j D OM w)
  (fq:WgAt ty Wg w st sm) (dQ:Mo j (xd D) tag st sm) (hi:i<j) (hg:gs[o+i]?=some g) (h9:(D i).stage=9) (hd:(D i).deaf=0)
  (hs:CF P ty Wg C n qy i (D i).F (D i).O g w):
  ∃m₁ ops μ',runT P (crowd gs w sl) (o+i)=(.next m₁,ops)/\MLt (n+1) μ' (psi n (Vc j (xd D)) tag+iA j D,ranks n D rk,f0+2*jF j D+2*sumTo o q)/\rD P ty o Wg C n SB qy K L0 w0 μ' m₁ (t++ops):=by
 obtain⟨_,v,qC,hx⟩:=hs;obtain⟨g',hgo,m,hk⟩:=hx w (Ext.refl ..) dV.pay ⟨_,_,fq⟩;have lW:=S.lW;have lC:=S.lC;have hA:AsideCell C n i w (w.setCell ⟨C,i,none⟩ v):=ql5 dV.pay v
 let x:WX:=⟨7,m,0,.leaf,(D i).F,(D i).O,v⟩
 have S':Sep Wg C SB j (upd D i x) FM OM (w.setCell ⟨C,i,none⟩ v):=S.same hi (x:=x) rfl rfl (by rw[hA.size];exact jd _);have gU:WgAt ty Wg (w.setCell ⟨C,i,none⟩ v) st sm:=fq.of_block (hA.block Wg (Ne.symm S.hCW));have lH:∀{F:Blocks},¬F C->Ext F w (w.setCell ⟨C,i,none⟩ v):=λhn=>⟨by rw[hA.size];exact jd _,λb hb=>hA.block b λe=>hn (e▸hb)⟩
 have Vp:∀i',i'<j->¬(D i').F C:=λi' fu h=>(S.wF i' fu C h).2.2.1 rfl;refine workerStep ja ha jN dV S fC fe hi hg hgo (x:=x) S' ⟨lH λh=>(S.mF C h).2.2.1 rfl,λ_=>⟨_,_,gU⟩⟩
  (λi' fu eG=>⟨lH (Vp i' fu),RW.of_cell hA eG S.hCW⟩)
  (.lib (.r0 hk) (ja _ _ _ _ _ qC (lH (Vp i hi)))) (by rw[hA.size];exact jd _) (λ_ h=>h) (λ_ h=>h) (λ_ h=>.inl h) (λ_ h=>.inl h) (λe he y hy=>?_) (λe he=>?_) (λe he y hy=>?_)
  ?_ (λh=>absurd (show 7<=6 from h) (by decide)) (λh=>absurd (show 7<=6 from h) (by decide)) (hA.pay dV.pay) gU (λtag' ht _=>(dQ.congr λa' _=>?_).retag ht) ?_ (.inl ⟨by rw[h9];exact(by decide:7<9),?_⟩)
 ·simp only[bh,bi]at he;subst he;rw[cj]at hy;simp only[aP,aE]at hy;subst hy;exact⟨rfl,.inr ⟨rfl,.inl ⟨i,hi,rfl,.inr rfl⟩⟩⟩
 ·simp only[bh,bi]at he;subst he;simp
 ·simp only[bh,bi]at he;subst he;rw[cj]at hy;simp only[aP,aE]at hy;subst hy;show C<_;rw[hA.size];exact lC
 ·rw[hd];rfl
 ·by_cases e:a'=i
  ·subst e;simp only[xd,am,h9,x];decide
  ·simp only[xd];rw[aC D _ e]
 ·refine fe.stepW (x:=x) (xlt fe.lW (bK lW)) (λb hb=>hA.block b λe=>?_) (λb hb=>.inl hb) hA.tape hA.os hA.output (H6 hA.block (let⟨_,h,_⟩:=hA.pay dV.pay;⟨_,_,_,h⟩));have:=fe.lC;omega
 ·simp only[xd,am,h9,x];simp[cnt]
end
theorem Gj (D:Nat->WX) (i:Nat) (x:WX):xd (upd D i x)=upd (xd D) i ⟨if x.stage=9 then 7 else x.stage,x.fuel,x.deaf⟩:=by
 funext k;by_cases e:k=i
 ·subst e;simp only[xd,am]
 ·rw[aC (xd D) _ e];simp only[xd];rw[aC D _ e]
theorem JT.bound {tag:Tag} (h:JT n tag j):j+kR tag<=n:=by
 cases tag<;>simp only[JT,kR]at h⊢<;>omega
section
variable {j i:Nat} {D:Nat->WD} {tag:Tag} {st sm:Int}
theorem Mo.same (hm:Mo j D tag st sm) (m' l6:Nat):Mo j (upd D i ⟨(D i).stage,m',l6⟩) tag st sm:=
 hm.congr λa _=>by
  by_cases e:a=i
  ·subst e;rw[am]
  ·rw[aC D _ e]
theorem Mo.counted (hm:Mo j D tag st sm) (hi:i<j) (h5:5<=(D i).stage) {s':Nat} (hs:s'=6\/s'=5) (m' l6:Nat):Mo j (upd D i ⟨s',m',l6⟩) tag st sm:=by
 have hv:Vc j (upd D i ⟨s',m',l6⟩)=Vc j D:=by
  have:=Vc_upd D (⟨s',m',l6⟩:WD) hi;have c1:cnt (D i)=1:=by simp[cnt,h5]
  have c2:cnt (⟨s',m',l6⟩:WD)=1:=by rcases hs with rfl|rfl<;>simp[cnt]
  omega
 have ho:OpenSt j D->OpenSt j (upd D i ⟨s',m',l6⟩):=λh a ha=>by
  by_cases e:a=i
  ·subst e;rw[am];rcases hs with rfl|rfl<;>simp
  ·rw[aC D _ e];exact h a ha
 cases hm with
 |opn h1 h2 h3=>rw[<-hv];exact .opn h1 (ho h2) (λvs e=>by rw[hv];exact h3 vs e)
 |reg h1 h2 h3=>rw[<-hv];exact .reg h1 (ho h2) (by rw[hv];exact h3)
 |last L h1 h2 h3 h4=>
  by_cases e:i=L
  ·subst e;omega
  ·have:=h4 i hi e;omega
 |sema _ h2=>have:=h2 i hi;omega
 |fin h1 h2=>have:=h2 i hi;omega
theorem Mo.isLast (hm:Mo j D tag st sm) (hi:i<j) (h:(D i).stage=4\/(D i).stage=3\/(D i).stage=2):
  JI tag/\(∀a,a<j->a≠i->(D a).stage=1)/\st=(if(D i).stage=2 then 0 else 1)/\sm=0:=by
 cases hm with
 |opn _ h2 _=>have:=h2 i hi;omega
 |reg _ h2 _=>have:=h2 i hi;omega
 |last L h1 h2 h3 h4=>
  by_cases e:i=L
  ·subst e;exact⟨h1,h4,rfl,rfl⟩
  ·have:=h4 i hi e;omega
 |sema _ h2=>have:=h2 i hi;omega
 |fin _ h2=>have:=h2 i hi;omega
end
section
variable [Payload] {P:az} {ty:aM} {o Wg C n:Nat} {SB:Blocks} {qy:Nat->Blocks->aN->ag->Prop} {K:aa->ag->Prop} {L0:Nat} {w0:ag} {gs:Array aa} {w w':ag} {sl:Option (Nat×Nat)} {j:Nat} {D:Nat->WX} {q:Nat->Nat} {tag:Tag} {f0 d0:Nat} {rk:Rank} {FM OM:Blocks} {a:aa} {t:aG} {st sm:Int}
omit [Payload] in
theorem XD {x:bq} (h:Bk Wg x) {y:Touch} (hy:(ai x).touch?=some y):y.loc.isMemory=true/\ShP Wg SB y.loc/\y.kind=.atomic:=by
 rcases h with h1|h1|⟨b,wr,rfl,hb⟩
 ·rw[ofEvent_loc_mark h1]at hy;cases hy
 ·rw[ofEvent_loc_mark h1]at hy;cases hy
 ·rw[ofEvent_cell]at hy;simp only[aP,aE]at hy;subst hy;exact⟨rfl,⟨b,rfl,.inr hb⟩,rfl⟩
theorem q38 (ja:∀i F v w w1,qy i F v w->Ext F w w1->qy i F v w1) (hn:n<2147483648) (ha:gs[0]?=some a) (jN:MS P ty Wg C n qy K tag f0 d0 rk FM OM a w) (dV:gW P ty o Wg C n SB qy j gs w t D q d0) (S:Sep Wg C SB j D FM OM w) (fC:JT n tag j) (fe:Kept Wg C L0 w0 j D OM w)
  (fq:WgAt ty Wg w st sm) (dQ:Mo j (xd D) tag st sm) (hi:i<j) (hg:gs[o+i]?=some g) (eT:g.status=.running)
  (hs:WSit P ty Wg C n oO oO 0 (i+1) (D i).val (D i).stage (D i).fuel (D i).deaf g w) (qC:qy i (D i).F (D i).val w):
  ∃m₁ ops μ',runT P (crowd gs w sl) (o+i)=(.next m₁,ops)/\MLt (n+1) μ' (psi n (Vc j (xd D)) tag+iA j D,ranks n D rk,f0+2*jF j D+2*sumTo o q)/\rD P ty o Wg C n SB qy K L0 w0 μ' m₁ (t++ops):=by
 have lW:=S.lW;have lC:=S.lC;have hCW:=S.hCW;have dZ:=dV.tH;have hb:=fC.bound;have Jk:=Vc_le j (xd D);have kL:=fe.lW;have kC:=fe.lC;have mW:¬FM Wg:=λh=>(S.mF Wg h).2.1 rfl;have mC:¬FM C:=λh=>(S.mF C h).2.2.1 rfl;have wW:∀i',i'<j->¬(D i').F Wg:=λi' h' h=>(S.wF i' h' Wg h).2.1 rfl;have wC:∀i',i'<j->¬(D i').F C:=λi' h' h=>(S.wF i' h' C h).2.2.1 rfl;generalize hst:(D i).stage=s at hs;generalize M4:(D i).fuel=m at hs;generalize Fj:(D i).deaf=dd at hs;have Vb:Deaf t (o+i)=dd:=by rw[dV.deafW i hi,Fj]
 have Wl:s≠9:=by rintro rfl;cases hs
 have vX:(xd D i).stage=s:=by simp only[xd,hst];rw[if_neg Wl]
 have xfu:(xd D i).fuel=m:=M4;have xde:(xd D i).deaf=dd:=Fj
 -- A O4 OF THE Dz zT:at most the Ju block turns
 have zS:∀{g':aa} {w':ag} {es:Array bq} {s' m' l6:Nat} {st' sm':Int},ay P false g w=.go g' w' es->Aside Wg w w'->WgAt ty Wg w' st' sm'->(∀e∈es,Bk Wg e)->
   (∀jx e,es[jx]?=some e->(ai e).touch?=none\/0<aA dd (es.extract 0 jx))->WSit P ty Wg C n oO oO 0 (i+1) (D i).val s' m' l6 g' w'->aA dd es=l6->s<=6->s'<=7->
   (∀tag',(tag'=tag\/(tag=.blk/\tag'=.sm))->(mayWake P g=true->g'.status=.running->tag'≠.blk)->Mo j (upd (xd D) i ⟨s',m',l6⟩) tag' st' sm')->((s'<s/\cnt ⟨s',m',l6⟩<=cnt (xd D i))\/(s'=s/\m'+1=m))->
   ∃m₁ ops μ',runT P (crowd gs w sl) (o+i)=(.next m₁,ops)/\MLt (n+1) μ' (psi n (Vc j (xd D)) tag+iA j D,ranks n D rk,f0+2*jF j D+2*sumTo o q)/\rD P ty o Wg C n SB qy K L0 w0 μ' m₁ (t++ops):=by
  intro g' w' es s' m' l6 st' sm' hgo nU gU zC hd mJ M7 h6 h7 lI eB;obtain⟨cs,OJ,OI⟩:=dV.pay;have eY:w.heap.size<=w'.heap.size:=by rw[nU.size];exact jd _
  have lH:∀{F:Blocks},¬F Wg->Ext F w w':=λhn=>⟨eY,λb hb=>nU.block b λe=>hn (e▸hb)⟩
  let x:WX:=⟨s',m',l6,(D i).rank,(D i).F,(D i).O,(D i).val⟩
  have ex:xd (upd D i x)=upd (xd D) i ⟨s',m',l6⟩:=by rw[Gj];show upd (xd D) i (⟨if s'=9 then 7 else s',m',l6⟩:WD)=_;rw[if_neg (by omega)]
  refine workerStep ja ha jN dV S fC fe hi hg hgo (x:=x) (S.same hi rfl rfl eY) ⟨lH mW,λ_=>⟨_,_,gU⟩⟩ (λi' fu eG=>⟨lH (wW i' fu),RW.of_wg nU ⟨_,_,gU⟩ hCW⟩)
   (.lib mJ (ja _ _ _ _ _ qC (lH (wW i hi)))) eY (λ_ h=>h) (λ_ h=>h) (λ_ h=>.inl h) (λ_ h=>.inl h)
   (λe he y hy=>let⟨h1,h2,h3⟩:=XD (zC e he) hy;⟨h1,.inl ⟨h2,h3⟩⟩) (λe he=>(norel_of_Bk zC) e he) (λe he=>q39 (by omega) (zC e he))
   (by rw[Fj];exact M7) (λ_=>let⟨r,hr⟩:=dV.rel i hi (by omega);⟨r,hr.book Vb _ _ zC hd⟩) (λ_=>(cell_of_block (nU.block C hCW) i).trans (dV.has i hi (by omega))) ⟨cs,(nU.block C hCW).trans OJ,OI⟩ gU
   (λtag' ht hw=>by rw[ex];exact lI tag' ht hw) (fe.stepW (by omega) (λb hb=>nU.block b (by omega)) (λ_ h=>.inl h) nU.tape nU.os nU.output (H6 nU.block ⟨_,_,_,gU⟩)) ?_
  rcases eB with⟨h1,h2⟩|⟨h1,h2⟩
  ·refine .inl ⟨by rw[hst];exact h1,?_⟩;rw[ex,am];exact h2
  ·exact .inr (.inr ⟨by rw[hst];exact h1,rfl,by rw[M4];exact h2⟩)
 have book:∀{g':aa} {w':ag} {es:Array bq} {s' m' l6:Nat} {st' sm':Int},ay P false g w=.go g' w' es->Aside Wg w w'->WgAt ty Wg w' st' sm'->(∀e∈es,Bk Wg e)->
   (∀jx e,es[jx]?=some e->(ai e).touch?=none\/0<aA dd (es.extract 0 jx))->WSit P ty Wg C n oO oO 0 (i+1) (D i).val s' m' l6 g' w'->aA dd es=l6->s<=6->s'<=7->
   Mo j (upd (xd D) i ⟨s',m',l6⟩) tag st' sm'->((s'<s/\cnt ⟨s',m',l6⟩<=cnt (xd D i))\/(s'=s/\m'+1=m))->
   ∃m₁ ops μ',runT P (crowd gs w sl) (o+i)=(.next m₁,ops)/\MLt (n+1) μ' (psi n (Vc j (xd D)) tag+iA j D,ranks n D rk,f0+2*jF j D+2*sumTo o q)/\rD P ty o Wg C n SB qy K L0 w0 μ' m₁ (t++ops):=
  λhgo nU gU zC hd mJ M7 h6 h7 lI eB=>zS hgo nU gU zC hd mJ M7 h6 h7 (λ_ ht _=>lI.retag ht) eB
 -- AN IDLE O4 O7 THE Jv:nothing turns,nothing is listed
 have idle:∀{g':aa} {m':Nat},ay P false g w=.go g' w #[]->WSit P ty Wg C n oO oO 0 (i+1) (D i).val s m' dd g' w->m'+1=m->s<=6->
   ∃m₁ ops μ',runT P (crowd gs w sl) (o+i)=(.next m₁,ops)/\MLt (n+1) μ' (psi n (Vc j (xd D)) tag+iA j D,ranks n D rk,f0+2*jF j D+2*sumTo o q)/\rD P ty o Wg C n SB qy K L0 w0 μ' m₁ (t++ops):=by
  intro g' m' hgo mJ hm h6;exact book hgo (.refl Wg w) fq (by simp) (by simp) mJ rfl h6 (by omega) (by have:=dQ.same (i:=i) m' dd;rwa [vX]at this) (.inr ⟨rfl,hm⟩)
 cases hs with
 |r0 h=>
  rcases aD h with eP|⟨m',rfl,dL⟩
  ·obtain⟨_,jQ,g',hgo,m₂,hk⟩:=eP w (bp w)
   let x:WX:=⟨6,m₂,0,(D i).rank,(D i).F,(D i).O,(D i).val⟩
   have ex:xd (upd D i x)=upd (xd D) i ⟨6,m₂,0⟩:=by rw[Gj];rfl
   refine workerStep ja ha jN dV S fC fe hi hg hgo (x:=x) (S.same hi rfl rfl (jd _)) (jf w) (λi' fu eG=>⟨Ext.refl ..,bp w⟩)
    (.lib (.k1 hk) qC) (jd _) (λ_ h=>h) (λ_ h=>h) (λ_ h=>.inl h) (λ_ h=>.inl h)
    (λe he y hy=>by simp at he;subst he;cases hy) (λe he=>by simp at he;subst he;simp[mk]) (λe he y hy=>by simp at he;subst he;cases hy)
    (by rw[Fj];rfl) (λ_=>⟨t.size,RelBy.new Vb _ _⟩) (λ_=>by simpa using jQ) dV.pay fq
    (λtag' ht hw=>by rw[ex];exact(dQ.counted hi (by omega) (.inl rfl) _ _).retag ht) (fe.stepW (by omega) (λ_ _=>rfl) (λ_ h=>.inl h) rfl rfl rfl id) (.inl ⟨by rw[hst];exact(by decide:6<7),?_⟩)
   rw[ex,am];simp[cnt,vX]
  ·obtain⟨g',w',es,hgo,⟨tC,kJ⟩,gD⟩:=dL w (bp w);simp only[Nat.add_sub_cancel]at tC;have eY:w.heap.size<=w'.heap.size:=by rw[tC.size];exact jd _
   have lH:∀{F:Blocks},¬F C->Ext F w w':=λhn=>⟨eY,λb hb=>tC.block b λe=>hn (e▸hb)⟩
   have gU:WgAt ty Wg w' st sm:=fq.of_block (tC.block Wg (Ne.symm hCW));have Pj:∀e∈es,∀y,(ai e).touch?=some y->∃b,y.loc=.cell b/\b.block=Wg/\y.kind=.atomic:=λe he y hy=>by
    rcases((kJ e he).1 (0:Nat) "").2 y hy with⟨⟨b,h1,h2⟩,h3,h4⟩|h1|⟨h1,_⟩
    ·refine⟨b,h1,h2,?_⟩;cases hk:y.kind with
     |atomic=>rfl
     |plain=>exact absurd hk h3
     |said=>exact absurd hk h4
    ·exact h1.elim
    ·exact h1.elim
   let x:WX:=⟨7,m',0,(D i).rank,(D i).F,(D i).O,(D i).val⟩
   have ex:xd (upd D i x)=upd (xd D) i ⟨7,m',0⟩:=by rw[Gj];rfl
   refine workerStep ja ha jN dV S fC fe hi hg hgo (x:=x) (S.same hi rfl rfl eY) ⟨lH mC,λ_=>⟨_,_,gU⟩⟩ (λi' fu eG=>⟨lH (wC i' fu),RW.of_cell tC eG hCW⟩)
    (.lib (.r0 gD) (ja _ _ _ _ _ qC (lH (wC i hi)))) eY (λ_ h=>h) (λ_ h=>h) (λ_ h=>.inl h) (λ_ h=>.inl h)
    (λe he y hy=>?_) (λe he=>(kJ e he).2.2.2) (λe he y hy=>?_)
    (by rw[Fj];exact deafBehind_idle (λe he=>⟨(kJ e he).2.1,(kJ e he).2.2.1⟩) 0) (λh=>absurd (show 7<=6 from h) (by decide)) (λh=>absurd (show 7<=6 from h) (by decide)) (tC.pay dV.pay) gU
    (λtag' ht hw=>by rw[ex];exact Mo.retag (by have:=dQ.same (i:=i) m' 0;rwa [vX]at this) ht) (fe.stepW (by omega) (λb hb=>tC.block b (by omega)) (λ_ h=>.inl h) tC.tape tC.os tC.output (H6 tC.block (let⟨_,h,_⟩:=tC.pay dV.pay;⟨_,_,_,h⟩)))
    (.inr (.inr ⟨hst.symm,rfl,M4.symm⟩))
   ·obtain⟨b,h1,h2,h3⟩:=Pj e he y hy;rw[h1];exact⟨rfl,.inl ⟨⟨b,rfl,.inr h2⟩,h3⟩⟩
   ·obtain⟨b,h1,h2,h3⟩:=Pj e he y hy;rw[h1];show b.block<_;omega
 |k1 h=>
  rcases aD h with eP|⟨m',rfl,dL⟩
  ·obtain⟨_,g',hgo,m₂,hk⟩:=eP w (bp w);exact book hgo (.refl Wg w) fq (by intro e he;simp at he;subst he;exact .inl rfl) (by intro jx e he;exact .inl (by have:=bm he;simp at this;subst this;rfl)) (.d1 hk) rfl (by omega) (by omega)
    (dQ.counted hi (by omega) (.inr rfl) _ _) (.inl ⟨by omega,by simp[cnt,vX]⟩)
  ·obtain⟨g',w',es,hgo,⟨rfl,rfl⟩,gD⟩:=dL w (bp w);exact idle hgo (.k1 gD) rfl (by omega)
 |d1 h=>
  rcases aD h with eP|⟨m',rfl,dL⟩
  ·obtain⟨_,fF⟩:=eP w (bp w);have jA:cnt (xd D i)=1:=by simp[cnt,vX]
   have hV1:1<=Vc j (xd D):=by have:=le_sumTo (f:=λx=>cnt (xd D x)) hi;simp only[Vc];omega
   have bk2:∀e∈#[rd (stA Wg),wr (stA Wg)],Bk Wg e:=by intro e he;simp at he;rcases he with rfl|rfl<;>exact bk_cell _ _ rfl
   have NA:∀jx e,(#[rd (stA Wg),wr (stA Wg)]:Array bq)[jx]?=some e->(ai e).touch?=none\/0<aA 1 ((#[rd (stA Wg),wr (stA Wg)]:Array bq).extract 0 jx):=by
    intro jx e he;match jx,he with
    |0,_=>exact .inr (by simp[aA])
    |1,_=>exact .inr (by simp[aA,rd])
    |jx+2,he=>simp at he
   have UZ:∀q,cnt (⟨1,q,1⟩:WD)=0:=λ_=>rfl;have Uh:∀q,OpenSt j (xd D)->OpenSt j (upd (xd D) i ⟨1,q,1⟩):=λq h a ha=>by
    by_cases e:a=i
    ·subst e;rw[am];simp
    ·rw[aC (xd D) _ e];exact h a ha
   cases dQ with
   |opn h1 h2 h3=>
    obtain⟨v,hv⟩:∃v,Vc j (xd D)+kR tag=v+1:=⟨Vc j (xd D)+kR tag-1,by omega⟩
    rw[hv]at fq;have A7:WgAt ty Wg w (((v:Nat)+1)*KK+((0:Nat):Int)) 0:=by simpa using fq
    obtain⟨g',hgo,_,hq⟩:=fF v 0 (by omega) (by omega) A7;obtain⟨q,hq⟩:=hq (by omega);have I5:Vc j (upd (xd D) i ⟨1,q,1⟩)+kR tag=v:=by have:=Vc_upd (xd D) (⟨1,q,1⟩:WD) hi;have:=UZ q;omega
    refine book hgo (aL w (stA Wg) _) (fq.setSt _) bk2 NA (.quit hq) rfl (by omega) (by omega) ?_ (.inl ⟨by omega,by simp[cnt]⟩);have e:((v:Nat):Int)*KK+((0:Nat):Int)=((Vc j (upd (xd D) i ⟨1,q,1⟩)+kR tag:Nat):Int)*KK:=by rw[I5];simp
    rw[e];exact .opn h1 (Uh q h2) (λvs ev=>by have:=h3 vs ev;omega)
   |reg h1 h2 h3=>
    obtain⟨v,hv⟩:∃v,Vc j (xd D)=v+1:=⟨Vc j (xd D)-1,by omega⟩
    rw[hv]at fq;have hp:kR tag=0:=by cases tag<;>first|rfl|exact h1.elim
    have A7:WgAt ty Wg w (((v:Nat)+1)*KK+((1:Nat):Int)) 0:=by simpa using fq
    obtain⟨g',hgo,hl,hq⟩:=fF v 1 (by omega) (by omega) A7;by_cases MC:v=0
    ·subst MC;obtain⟨m₂,hk⟩:=hl ⟨rfl,rfl⟩;refine book hgo (aL w (stA Wg) _) (fq.setSt _) bk2 NA (.d2 hk) rfl (by omega) (by omega) ?_ (.inl ⟨by omega,by simp[cnt]⟩);have iw:∀a,a<j->a≠i->(xd D a).stage=1:=λa ha e=>by
      have c0:=others_uncounted hi hv jA a ha e;have:=h2 a ha;simp only[cnt]at c0;split at c0<;>omega
     have:=Mo.last (j:=j) (D:=upd (xd D) i ⟨4,m₂,1⟩) (tag:=tag) i h1 hi (by rw[am];simp) (λa ha e=>by rw[aC (xd D) _ e];exact iw a ha e);rw[am]at this;simpa using this
    ·obtain⟨q,hq⟩:=hq (by omega);have I5:Vc j (upd (xd D) i ⟨1,q,1⟩)=v:=by have:=Vc_upd (xd D) (⟨1,q,1⟩:WD) hi;have:=UZ q;omega
     refine book hgo (aL w (stA Wg) _) (fq.setSt _) bk2 NA (.quit hq) rfl (by omega) (by omega) ?_ (.inl ⟨by omega,by simp[cnt]⟩);have e:((v:Nat):Int)*KK+((1:Nat):Int)=((Vc j (upd (xd D) i ⟨1,q,1⟩):Nat):Int)*KK+1:=by rw[I5];simp
     rw[e];exact .reg h1 (Uh q h2) (by omega)
   |last L _ h2 h3 h4=>
    by_cases e:i=L
    ·subst e;omega
    ·have:=h4 i hi e;omega
   |sema _ h2=>have:=h2 i hi;omega
   |fin _ h2=>have:=h2 i hi;omega
  ·obtain⟨g',w',es,hgo,⟨rfl,rfl⟩,gD⟩:=dL w (bp w);exact idle hgo (.d1 gD) rfl (by omega)
 |d2 h=>
  rcases aD h with eP|⟨m',rfl,dL⟩
  ·obtain⟨_,hx⟩:=eP w (bp w);obtain⟨Fz,iw,rfl,rfl⟩:=dQ.isLast hi (by omega);simp only[vX]at fq;obtain⟨g',hgo,m₂,hk⟩:=hx (by simpa using fq);refine book hgo (.refl Wg w) fq (by intro e he;simp at he;subst he;exact bk_cell _ _ rfl) (by intro jx e he;match jx,he with|0,_=>exact .inr (by simp[aA])|jx+1,he=>simp at he) (.d3 hk) rfl (by omega) (by omega) ?_ (.inl ⟨by omega,by simp[cnt]⟩);have:=Mo.last (j:=j) (D:=upd (xd D) i ⟨3,m₂,1⟩) (tag:=tag) i Fz hi (by rw[am];simp) (λa ha e=>by rw[aC (xd D) _ e];exact iw a ha e);rw[am]at this;simpa using this
  ·obtain⟨g',w',es,hgo,⟨rfl,rfl⟩,gD⟩:=dL w (bp w);exact idle hgo (.d2 gD) rfl (by omega)
 |d3 h=>
  rcases aD h with eP|⟨m',rfl,dL⟩
  ·obtain⟨_,hx⟩:=eP w (bp w);obtain⟨Fz,iw,rfl,rfl⟩:=dQ.isLast hi (by omega);simp only[vX]at fq;obtain⟨g',hgo,m₂,hk⟩:=hx (by simpa using fq);refine book hgo (aL w (stA Wg) _) (fq.setSt 0) (by intro e he;simp at he;subst he;exact bk_cell _ _ rfl) (by intro jx e he;match jx,he with|0,_=>exact .inr (by simp[aA])|jx+1,he=>simp at he) (.d4 hk) rfl (by omega) (by omega) ?_ (.inl ⟨by omega,by simp[cnt]⟩);have:=Mo.last (j:=j) (D:=upd (xd D) i ⟨2,m₂,1⟩) (tag:=tag) i Fz hi (by rw[am];simp) (λa ha e=>by rw[aC (xd D) _ e];exact iw a ha e);rw[am]at this;simpa using this
  ·obtain⟨g',w',es,hgo,⟨rfl,rfl⟩,gD⟩:=dL w (bp w);exact idle hgo (.d3 gD) rfl (by omega)
 |d4 h=>
  rcases aD h with eP|⟨m',rfl,dL⟩
  ·obtain⟨_,hmw,hx⟩:=eP w (bp w);obtain⟨Fz,iw,rfl,rfl⟩:=dQ.isLast hi (by omega);simp only[vX]at fq;obtain⟨g',hgo,q,hq⟩:=hx (by simpa using fq);have rq:g'.status=.running:=by
    cases q with
    |zero=>exact absurd hq.2 (by decide)
    |succ q=>exact hq.elim (λx=>absurd x.2 (by decide)) (λx=>x.1)
   refine zS hgo (aL w (smA Wg) _) (fq.setSm 1) (es:=semEvents (smA Wg)) bk_sem ?_ (.quit hq) (by simp[aA,semEvents]) (by omega) (by omega) ?_ (.inl ⟨by omega,by simp[cnt]⟩)
   ·intro jx e he;match jx,he with
    |0,he=>simp[semEvents]at he;subst he;exact .inl rfl
    |1,_=>exact .inr (by simp[aA,semEvents])
    |2,_=>exact .inr (by simp[aA,semEvents])
    |3,he=>simp[semEvents]at he;subst he;exact .inl rfl
    |jx+4,he=>simp[semEvents]at he
   ·intro tag' ht hw;have nA:=hw hmw rq;have e3:tag'=.sm\/tag'=.ws:=by
     rcases ht with rfl|⟨_,rfl⟩
     ·cases tag'<;>first|exact .inl rfl|exact .inr rfl|exact Fz.elim|exact absurd rfl nA
     ·exact .inl rfl
    have Bb:AllQuit j (upd (xd D) i ⟨1,q,1⟩):=λa ha=>by
     by_cases e:a=i
     ·subst e;rw[am]
     ·rw[aC (xd D) _ e];exact iw a ha e
    simp only[if_true];exact .sema e3.symm Bb
  ·obtain⟨g',w',es,hgo,⟨rfl,rfl⟩,gD⟩:=dL w (bp w);exact idle hgo (.d4 gD) rfl (by omega)
 |quit h=>
  cases m with
  |zero=>rw[h.1]at eT;cases eT
  |succ q=>
   rcases h with⟨hf,_⟩|⟨_,g',es,zQ,dL,hq⟩
   ·rw[hf]at eT;cases eT
   ·have zC:∀e∈es,Bk Wg e:=λe he=>bk_of_mute (zQ e he);have fI:∀jx e,es[jx]?=some e->(ai e).touch?=none\/0<aA dd (es.extract 0 jx):=λjx e he=>.inl (touch_mute (zQ e (bm he)));exact book (dL w) (.refl Wg w) fq zC fI (.quit hq) rfl (by omega) (by omega) (by have:=dQ.same (i:=i) q (aA dd es);rwa [vX]at this) (.inr ⟨rfl,rfl⟩)
end
end
section
open Go Go.Conc Go.ConcN Sim
open Go.ConcN.Gen (ev0_said_read ev0_said_write)
open Go.ConcR (KK WgAt stA smA rd wr mk Payload DC0 g_of_ofEvents Bk bk_of_mute ofEvent_loc_mark ofEvent_cell)
theorem MLt.lt1 {N:Nat} {a b c:Mea} (h:MLt N a b) (k:b.1<c.1):MLt N a c:=by
 obtain⟨a1,a2⟩:=a;obtain⟨b1,b2⟩:=b;obtain⟨c1,c2⟩:=c;simp only at k;rcases Prod.lex_def.1 h with h|⟨h,_⟩
 ·simp only at h;exact bk _ _ (by omega)
 ·simp only at h;exact bk _ _ (by omega)
section
variable [Payload] (P:az) (ty:aM) (o Wg C n:Nat) (SB:Blocks) (qy:Nat->Blocks->aN->ag->Prop) (K:aa->ag->Prop) (L0:Nat) (w0:ag)
def Out (gs:Array aa) (w:ag) (sl:Option (Nat×Nat)) (t:aG) (k:Nat) (μ:Mea):Prop:=
 ∃m₁ ops μ',runT P (crowd gs w sl) k=(.next m₁,ops)/\MLt (n+1) μ' μ/\rD P ty o Wg C n SB qy K L0 w0 μ' m₁ (t++ops)
end
section
variable {j:Nat} {D:Nat->WD} {tag tag':Tag} {st sm:Int}
theorem Mo.reopen (hm:Mo j D tag st sm) (h:GJ tag) (h':GJ tag') (hp:kR tag'=kR tag) (hw:∀vs,tag'=.cs vs->Vc j D<=vs/\1<=vs):Mo j D tag' st sm:=by
 cases hm with
 |opn _ h2 _=>rw[<-hp];exact .opn h' h2 hw
 |reg h1 _ _=>cases tag<;>first|exact h.elim|exact h1.elim
 |last L h1 _ _ _=>cases tag<;>first|exact h.elim|exact h1.elim
 |sema h1 _=>rcases h1 with rfl|rfl<;>exact h.elim
 |fin h1 _=>cases tag<;>first|exact h.elim|exact h1.elim
theorem Mo.open_inv (hm:Mo j D tag st sm) (h:GJ tag):OpenSt j D/\st=((Vc j D+kR tag:Nat):Int)*KK/\sm=0/\∀vs,tag=.cs vs->Vc j D<=vs/\1<=vs:=by
 cases hm with
 |opn _ h2 h3=>exact⟨h2,rfl,rfl,h3⟩
 |reg h1 _ _=>cases tag<;>first|exact h.elim|exact h1.elim
 |last L h1 _ _ _=>cases tag<;>first|exact h.elim|exact h1.elim
 |sema h1 _=>rcases h1 with rfl|rfl<;>exact h.elim
 |fin h1 _=>cases tag<;>first|exact h.elim|exact h1.elim
theorem Mo.fin_inv (hm:Mo j D tag st sm) (h:Pw tag):AllQuit j D/\st=0/\sm=0:=by
 cases hm with
 |opn h1 _ _=>cases tag<;>first|exact h.elim|exact h1.elim
 |reg h1 _ _=>cases tag<;>first|exact h.elim|exact h1.elim
 |last L h1 _ _ _=>cases tag<;>first|exact h.elim|exact h1.elim
 |sema h1 _=>rcases h1 with rfl|rfl<;>exact h.elim
 |fin _ h2=>exact⟨h2,rfl,rfl⟩
end
section
variable [Payload] {P:az} {ty:aM} {o Wg C n:Nat} {SB:Blocks} {qy:Nat->Blocks->aN->ag->Prop} {K:aa->ag->Prop} {L0:Nat} {w0:ag} {gs:Array aa} {w w':ag} {sl:Option (Nat×Nat)} {j:Nat} {D:Nat->WX} {q:Nat->Nat} {tag tag':Tag} {f0 f' d0:Nat} {rk zW:Rank} {FM OM vW vU:Blocks} {a a':aa} {t:aG} {st sm st' sm':Int} {es:Array bq}
omit [Payload] in
theorem Sep.none (S:Sep Wg C SB j D FM OM w):Sep Wg C SB j D FM (λ_=>False) w:=⟨S.wF,S.wO,S.apart,S.mF,λ_ h=>h.elim,S.lW,S.lC,S.lS,S.hCW,S.sW,S.sC⟩
omit [Payload] in
theorem Sep.size (S:Sep Wg C SB j D FM OM w) (h:w.heap.size<=w'.heap.size):Sep Wg C SB j D FM OM w':=
 ⟨λi hi b hb=>let x:=S.wF i hi b hb;⟨xll x.1 h,x.2⟩,S.wO,S.apart,λb hb=>let x:=S.mF b hb;⟨xll x.1 h,x.2⟩,S.mO,xll S.lW h,xll S.lC h,λb hb=>xll (S.lS b hb) h,S.hCW,S.sW,S.sC⟩
omit [Payload] in
theorem Kept.none (h:Kept Wg C L0 w0 j D OM w):Kept Wg C L0 w0 j D (λ_=>False) w:=⟨h.keep,h.lW,h.lC,h.lO,λ_ h=>h.elim,h.tape,h.os,h.output,h.nb⟩
omit [Payload] in
theorem Kept.wg (h:Kept Wg C L0 w0 j D OM w) (hA:Aside Wg w w') (hg:WgAt ty Wg w' st' sm'):Kept Wg C L0 w0 j D OM w':=
 ⟨λb hb=>(hA.block b (by have:=h.lW;omega)).trans (h.keep b hb),h.lW,h.lC,h.lO,h.lM,hA.tape.trans h.tape,hA.os.trans h.os,hA.output.trans h.output,λx=>H6 hA.block ⟨_,_,_,hg⟩ (h.nb x)⟩
omit [Payload] in
theorem Tq {pos:String} (h:∀e∈es,∀y,(ai e).touch?=some y->∃b,y.loc=.cell b/\b.block=Wg/\y.kind≠.plain):∀op∈ax 0 fn pos es,Ok0 (ShP Wg SB) (oW o C j D) (RdD o j D) (o-1+j) op:=by
 intro op dZ;obtain⟨e,he,rfl⟩:=aj dZ;refine⟨rfl,λy hy=>?_⟩;obtain⟨b,h1,h2,h3⟩:=h e he y hy;exact .inl ⟨h1▸⟨b,rfl,.inr h2⟩,h3⟩
omit [Payload] in
theorem sN (h:∀e∈es,Bk Wg e):∀e∈es,∀y,(ai e).touch?=some y->∃b,y.loc=.cell b/\b.block=Wg/\y.kind≠.plain:=by
 intro e he y hy;rcases h e he with h1|h1|⟨b,wr,rfl,hb⟩
 ·rw[ofEvent_loc_mark h1]at hy;cases hy
 ·rw[ofEvent_loc_mark h1]at hy;cases hy
 ·rw[ofEvent_cell]at hy;simp only[aP,aE]at hy;subst hy;exact⟨b,rfl,hb,by simp⟩
theorem nL (ja:∀i F v w w1,qy i F v w->Ext F w w1->qy i F v w1) (ha:gs[0]?=some a) (dV:gW P ty o Wg C n SB qy j gs w t D q d0) (S:Sep Wg C SB j D FM OM w) (fe:Kept Wg C L0 w0 j D OM w)
  (hgo:ay P true a w=.go a' w' es) (nU:Aside Wg w w') (gU:WgAt ty Wg w' st' sm') (EQ:∀e∈es,∀y,(ai e).touch?=some y->∃b,y.loc=.cell b/\b.block=Wg/\y.kind≠.plain) (xB:∀e∈es,e.loc≠.mark (.release (stA Wg)))
  (tJ:MS P ty Wg C n qy K tag' f' (aA d0 es) .leaf FM (λ_=>False) a' w') (lI:Mo j (xd D) tag' st' sm') (fC:JT n tag' j)
  (eB:psi n (Vc j (xd D)) tag'<psi n (Vc j (xd D)) tag\/(psi n (Vc j (xd D)) tag'=psi n (Vc j (xd D)) tag/\rk=.leaf/\f'<f0)):
  Out P ty o Wg C n SB qy K L0 w0 gs w sl t 0 (psi n (Vc j (xd D)) tag+iA j D,ranks n D rk,f0+2*jF j D+2*sumTo o q):=by
 obtain⟨cs,jA,lm⟩:=dV.pay;have eY:w.heap.size<=w'.heap.size:=by rw[nU.size];exact jd _
 have lW:=S.lW;refine callerStep ja ha dV S hgo tJ (S.none.size eY) (λi hi=>⟨⟨eY,λb hb=>nU.block b (S.wF i hi b hb).2.1⟩,RW.of_wg nU ⟨_,_,gU⟩ S.hCW⟩) eY (Tq EQ)
  (λe he y hy=>by obtain⟨b,h1,_⟩:=EQ e he y hy;rw[h1];rfl) xB (λe he y hy=>by obtain⟨b,h1,h2,_⟩:=EQ e he y hy;rw[h1];show b.block<_;omega) ⟨cs,(nU.block C S.hCW).trans jA,lm⟩ gU lI fC (fe.none.wg nU gU) ?_
 rcases eB with h|⟨h1,h2,h3⟩
 ·exact .inl h
 ·exact .inr (.inr ⟨h1,h2.symm,h3⟩)
theorem rJ (ja:∀i F v w w1,qy i F v w->Ext F w w1->qy i F v w1) (ha:gs[0]?=some a) (dV:gW P ty o Wg C n SB qy j gs w t D q d0) (S:Sep Wg C SB j D FM OM w) (fe:Kept Wg C L0 w0 j D OM w)
  (fq:WgAt ty Wg w st sm) (dQ:Mo j (xd D) tag st sm) (fC:JT n tag j)
  (hgo:ay P true a w=.go a' w' es) (hD:DC0 w w' es) (tJ:MS P ty Wg C n qy K tag f' d0 .leaf FM (λ_=>False) a' w') (hf:f'<f0):
  Out P ty o Wg C n SB qy K L0 w0 gs w sl t 0 (psi n (Vc j (xd D)) tag+iA j D,ranks n D .leaf,f0+2*jF j D+2*sumTo o q):=by
 obtain⟨rfl,rfl⟩:=hD;exact nL ja ha dV S fe hgo (.refl Wg _) fq (by simp) (by simp) tJ dQ fC (.inr ⟨rfl,rfl,hf⟩)
omit [Payload] in
theorem sH (h:∀e∈es,Bk Wg e):∀e∈es,e.loc≠.mark (.release (stA Wg)):=λe he=>(norel_of_Bk h) e he
omit [Payload] in
theorem Sm {m:Mark} (hm:m=.read (smA Wg)\/m=.write (smA Wg)):∀e∈#[mk m],∀y,(ai e).touch?=some y->∃b,y.loc=.cell b/\b.block=Wg/\y.kind≠.plain:=by
 intro e he y hy;simp only[bh,bi]at he;subst he;rcases hm with rfl|rfl<;>
  (simp only[mk,ai,aP,aE]at hy
   subst hy
   exact⟨smA Wg,rfl,rfl,by simp⟩)
omit [Payload] in
theorem Ma {m:Mark} (hm:m≠.release (stA Wg)):∀e∈#[mk m],e.loc≠.mark (.release (stA Wg)):=by
 intro e he;simp only[bh,bi]at he;subst he;intro h;simp only[mk,Loc.mark.injEq]at h;exact hm h
section
variable (ja:∀i F v w w1,qy i F v w->Ext F w w1->qy i F v w1) (hn:n<2147483648) (ha:gs[0]?=some a) (fe:Kept Wg C L0 w0 j D OM w) (S:Sep Wg C SB j D FM OM w) (fq:WgAt ty Wg w st sm)
include ja hn ha fe S fq
omit hn in
theorem QM (dV:gW P ty o Wg C n SB qy j gs w t D q 0) (dQ:Mo j (xd D) (.kdS r) st sm) (fC:JT n (.kdS r) j) (hr:r<n)
  (h:Goes P true (RM ty Wg FM) DC0 (iH P .disable (MG P ty Wg FM (tT P ty Wg FM (MG P ty Wg FM (AtGoM P ty Wg C n qy (n-(r+1)) FM λg' w=>WG P true (Scr P ty Wg C n qy K r) FM (λ_=>False) g' w))))) f0 a w):
  Out P ty o Wg C n SB qy K L0 w0 gs w sl t 0 (psi n (Vc j (xd D)) (.kdS r)+iA j D,ranks n D .leaf,f0+2*jF j D+2*sumTo o q):=by
 rcases aD h with eP|⟨m',rfl,dL⟩
 ·obtain⟨_,a',hgo,m₂,hk⟩:=eP w (jf w);exact nL (tag':=.ad r) ja ha dV S fe hgo (.refl Wg _) fq (sN bk_dis) (sH bk_dis) (.ad hr hk) (dQ.reopen trivial trivial rfl (by simp)) fC (.inl (by simp only[psi];omega))
 ·obtain⟨a',w',es,hgo,hD,gD⟩:=dL w (jf w);exact rJ ja ha dV S fe fq dQ fC hgo hD (.kdS hr gD) (by omega)
theorem q8r (dV:gW P ty o Wg C n SB qy j gs w t D q 1) (dQ:Mo j (xd D) (.ad r) st sm) (fC:JT n (.ad r) j) (hr:r<n)
  (h:Goes P true (RM ty Wg FM) DC0 (tT P ty Wg FM (MG P ty Wg FM (AtGoM P ty Wg C n qy (n-(r+1)) FM λg' w=>WG P true (Scr P ty Wg C n qy K r) FM (λ_=>False) g' w))) f0 a w):
  Out P ty o Wg C n SB qy K L0 w0 gs w sl t 0 (psi n (Vc j (xd D)) (.ad r)+iA j D,ranks n D .leaf,f0+2*jF j D+2*sumTo o q):=by
 have Jk:=Vc_le j (xd D);have EZ:=fC.le;rcases aD h with eP|⟨m',rfl,dL⟩
 ·obtain⟨_,fF⟩:=eP w (jf w);obtain⟨ho,rfl,rfl,_⟩:=dQ.open_inv trivial;have Jd:j+r+1=n:=fC;obtain⟨a',hgo,hk⟩:=fF (Vc j (xd D)) (by omega) (by simpa[kR]using fq);rcases hk with⟨_,m₂,hk⟩|⟨_,m₂,hk⟩
  ·refine nL (tag':=.rs r) ja ha dV S fe hgo (aL w (stA Wg) _) (fq.setSt _) (sN bk_rw) (sH bk_rw) (.rs hr hk) ?_ fC (.inl (by simp only[psi];omega));have e:(((Vc j (xd D):Nat):Int)+1)*KK=((Vc j (xd D)+kR (.rs r):Nat):Int)*KK:=by simp[kR]
   rw[e];exact .opn trivial ho (by simp)
  ·refine nL (tag':=.en r) ja ha dV S fe hgo (aL w (stA Wg) _) (fq.setSt _) (sN bk_rw) (sH bk_rw) (.en hr hk) ?_ fC (.inl (by simp only[psi];omega));have e:(((Vc j (xd D):Nat):Int)+1)*KK=((Vc j (xd D)+kR (.en r):Nat):Int)*KK:=by simp[kR]
   rw[e];exact .opn trivial ho (by simp)
 ·obtain⟨a',w',es,hgo,hD,gD⟩:=dL w (jf w);exact rJ ja ha dV S fe fq dQ fC hgo hD (.ad hr gD) (by omega)
omit hn in
theorem jai (dV:gW P ty o Wg C n SB qy j gs w t D q 1) (dQ:Mo j (xd D) (.rs r) st sm) (fC:JT n (.rs r) j) (hr:r<n)
  (h:Goes P true (RM ty Wg FM) DC0 (iH P (.read (smA Wg)) (MG P ty Wg FM (iH P .enable (MG P ty Wg FM (AtGoM P ty Wg C n qy (n-(r+1)) FM λg' w=>WG P true (Scr P ty Wg C n qy K r) FM (λ_=>False) g' w))))) f0 a w):
  Out P ty o Wg C n SB qy K L0 w0 gs w sl t 0 (psi n (Vc j (xd D)) (.rs r)+iA j D,ranks n D .leaf,f0+2*jF j D+2*sumTo o q):=by
 rcases aD h with eP|⟨m',rfl,dL⟩
 ·obtain⟨_,a',hgo,m₂,hk⟩:=eP w (jf w);exact nL (tag':=.en r) ja ha dV S fe hgo (.refl Wg _) fq (Sm (.inl rfl)) (Ma (by simp)) (.en hr hk) (dQ.reopen trivial trivial rfl (by simp)) fC (.inl (by simp only[psi];omega))
 ·obtain⟨a',w',es,hgo,hD,gD⟩:=dL w (jf w);exact rJ ja ha dV S fe fq dQ fC hgo hD (.rs hr gD) (by omega)
omit hn in
theorem q81 (dV:gW P ty o Wg C n SB qy j gs w t D q 1) (dQ:Mo j (xd D) (.en r) st sm) (fC:JT n (.en r) j) (hr:r<n)
  (h:Goes P true (RM ty Wg FM) DC0 (iH P .enable (MG P ty Wg FM (AtGoM P ty Wg C n qy (n-(r+1)) FM λg' w=>WG P true (Scr P ty Wg C n qy K r) FM (λ_=>False) g' w))) f0 a w):
  Out P ty o Wg C n SB qy K L0 w0 gs w sl t 0 (psi n (Vc j (xd D)) (.en r)+iA j D,ranks n D .leaf,f0+2*jF j D+2*sumTo o q):=by
 rcases aD h with eP|⟨m',rfl,dL⟩
 ·obtain⟨_,a',hgo,m₂,hk⟩:=eP w (jf w);exact nL (tag':=.gos r) ja ha dV S fe hgo (.refl Wg _) fq (sN bk_en) (sH bk_en) (.gos hr hk) (dQ.reopen trivial trivial rfl (by simp)) fC (.inl (by simp only[psi];omega))
 ·obtain⟨a',w',es,hgo,hD,gD⟩:=dL w (jf w);exact rJ ja ha dV S fe fq dQ fC hgo hD (.en hr gD) (by omega)
omit hn in
theorem Pv (rW:∀g w,A g w->g.status=.running) (mr:∀g w,A g w->MG P ty Wg FM (oN P ty Wg FM A K) g w) (dV:gW P ty o Wg C n SB qy j gs w t D q 0) (dQ:Mo j (xd D) .kd st sm) (fC:JT n .kd j)
  (h:Goes P true (RM ty Wg FM) DC0 (iH P .disable (MG P ty Wg FM A)) f0 a w):
  Out P ty o Wg C n SB qy K L0 w0 gs w sl t 0 (psi n (Vc j (xd D)) .kd+iA j D,ranks n D .leaf,f0+2*jF j D+2*sumTo o q):=by
 have Jk:=Vc_le j (xd D);have EZ:=fC.le;rcases aD h with eP|⟨m',rfl,dL⟩
 ·obtain⟨_,a',hgo,m₂,hk⟩:=eP w (jf w);exact nL (tag':=.anch) ja ha dV S fe hgo (.refl Wg _) fq (sN bk_dis) (sH bk_dis) (.anch rW mr hk) (dQ.reopen trivial trivial rfl (by simp)) fC (.inl (by simp only[psi];omega))
 ·obtain⟨a',w',es,hgo,hD,gD⟩:=dL w (jf w);exact rJ ja ha dV S fe fq dQ fC hgo hD (.kd rW mr gD) (by omega)
theorem PW (rW:∀g w,A g w->g.status=.running) (mr:∀g w,A g w->MG P ty Wg FM (oN P ty Wg FM A K) g w) (dV:gW P ty o Wg C n SB qy j gs w t D q 1) (dQ:Mo j (xd D) .ld st sm) (fC:JT n .ld j)
  (h:Goes P true (RM ty Wg FM) DC0 (oN P ty Wg FM A K) f0 a w):
  Out P ty o Wg C n SB qy K L0 w0 gs w sl t 0 (psi n (Vc j (xd D)) .ld+iA j D,ranks n D .leaf,f0+2*jF j D+2*sumTo o q):=by
 have Jk:=Vc_le j (xd D);have EZ:=fC.le;rcases aD h with eP|⟨m',rfl,dL⟩
 ·obtain⟨_,fF⟩:=eP w (jf w);obtain⟨ho,rfl,rfl,_⟩:=dQ.open_inv trivial;obtain⟨a',hgo,h0,eG⟩:=fF (Vc j (xd D)) (by omega) (by simpa[kR]using fq);by_cases hv:Vc j (xd D)=0
  ·obtain⟨m₂,hk⟩:=h0 hv;refine nL (tag':=.en2) ja ha dV S fe hgo (.refl Wg _) fq (sN bk_rd) (sH bk_rd) (.en2 hk) ?_ fC (.inl (by simp only[psi];omega));have e:((Vc j (xd D)+kR .ld:Nat):Int)*KK=0:=by rw[hv];simp[kR]
   rw[e];exact .fin trivial (allQuit_of ho hv)
  ·obtain⟨m₂,hk⟩:=eG hv;exact nL (tag':=.cs (Vc j (xd D))) ja ha dV S fe hgo (.refl Wg _) fq (sN bk_rd) (sH bk_rd) (.cs rW mr hk) (dQ.reopen trivial trivial rfl (λvs e=>by cases e;omega)) fC (.inl (by simp only[psi];omega))
 ·obtain⟨a',w',es,hgo,hD,gD⟩:=dL w (jf w);exact rJ ja ha dV S fe fq dQ fC hgo hD (.ld rW mr gD) (by omega)
theorem XC (rW:∀g w,A g w->g.status=.running) (mr:∀g w,A g w->MG P ty Wg FM (oN P ty Wg FM A K) g w) (dV:gW P ty o Wg C n SB qy j gs w t D q 1) (dQ:Mo j (xd D) .anch st sm) (fC:JT n .anch j)
  (h:Goes P true (RM ty Wg FM) DC0 A f0 a w):
  Out P ty o Wg C n SB qy K L0 w0 gs w sl t 0 (psi n (Vc j (xd D)) .anch+iA j D,ranks n D .leaf,f0+2*jF j D+2*sumTo o q):=by
 rcases aD h with eP|⟨m',rfl,dL⟩
 ·obtain⟨m₂,hk⟩:=mr a w (eP w (jf w));obtain⟨m₁,ops,μ',h1,h2,h3⟩:=PW (sl:=sl) ja hn ha fe S fq rW mr dV (dQ.reopen trivial trivial rfl (by simp)) fC hk;exact⟨m₁,ops,μ',h1,h2.lt1 (by simp only[psi];omega),h3⟩
 ·obtain⟨a',w',es,hgo,hD,gD⟩:=dL w (jf w);exact rJ ja ha dV S fe fq dQ fC hgo hD (.anch rW mr gD) (by omega)
theorem q8w {vs:Nat} (rW:∀g w,A g w->g.status=.running) (mr:∀g w,A g w->MG P ty Wg FM (oN P ty Wg FM A K) g w) (dV:gW P ty o Wg C n SB qy j gs w t D q 1) (dQ:Mo j (xd D) (.cs vs) st sm) (fC:JT n (.cs vs) j)
  (h:Goes P true (RM ty Wg FM) DC0 (Ak P ty Wg FM A K vs) f0 a w):
  Out P ty o Wg C n SB qy K L0 w0 gs w sl t 0 (psi n (Vc j (xd D)) (.cs vs)+iA j D,ranks n D .leaf,f0+2*jF j D+2*sumTo o q):=by
 have Jk:=Vc_le j (xd D);have EZ:=fC.le;rcases aD h with eP|⟨m',rfl,dL⟩
 ·obtain⟨_,fF⟩:=eP w (jf w);obtain⟨ho,rfl,rfl,pz⟩:=dQ.open_inv trivial;obtain⟨hle,h1⟩:=pz vs rfl;obtain⟨OB,FX⟩:=fF (Vc j (xd D)) (by omega) (by simpa[kR]using fq);by_cases e:Vc j (xd D)=vs
  ·obtain⟨a',hgo,m₂,hk⟩:=OB e;exact nL (tag':=.ws) ja ha dV S fe hgo (aL w (stA Wg) _) (fq.setSt _) (sN bk_rw) (sH bk_rw) (.ws hk) (.reg trivial ho (by omega)) fC (.inl (by simp only[psi];omega))
  ·obtain⟨a',hgo,m₂,hk⟩:=FX e;exact nL (tag':=.anch) ja ha dV S fe hgo (.refl Wg _) fq (sN bk_rd) (sH bk_rd) (.anch rW mr hk) (dQ.reopen trivial trivial rfl (by simp)) fC (.inl (by simp only[psi];omega))
 ·obtain⟨a',w',es,hgo,hD,gD⟩:=dL w (jf w);exact rJ ja ha dV S fe fq dQ fC hgo hD (.cs rW mr gD) (by omega)
omit hn in
theorem jbb (dV:gW P ty o Wg C n SB qy j gs w t D q 1) (dQ:Mo j (xd D) .ws st sm) (fC:JT n .ws j)
  (h:Goes P true (RM ty Wg FM) DC0 (iH P (.write (smA Wg)) (MG P ty Wg FM (vB P ty Wg FM K))) f0 a w):
  Out P ty o Wg C n SB qy K L0 w0 gs w sl t 0 (psi n (Vc j (xd D)) .ws+iA j D,ranks n D .leaf,f0+2*jF j D+2*sumTo o q):=by
 rcases aD h with eP|⟨m',rfl,dL⟩
 ·obtain⟨_,a',hgo,m₂,hk⟩:=eP w (jf w);refine nL (tag':=.sm) ja ha dV S fe hgo (.refl Wg _) fq (Sm (.inr rfl)) (Ma (by simp)) (.sm hk) ?_ fC (.inl (by simp only[psi];omega));cases dQ with
  |opn h1 _ _=>exact h1.elim
  |reg h1 h2 h3=>exact .reg trivial h2 h3
  |last L h1 h2 h3 h4=>exact .last L trivial h2 h3 h4
  |sema h1 h2=>exact .sema (.inr rfl) h2
  |fin h1 _=>exact h1.elim
 ·obtain⟨a',w',es,hgo,hD,gD⟩:=dL w (jf w);exact rJ ja ha dV S fe fq dQ fC hgo hD (.ws gD) (by omega)
end
end
end
section
open Go Go.Conc Go.ConcN Sim
open Go.ConcR (KK WgAt stA smA rd wr mk Payload DC0 g_of_ofEvents Bk bk_of_mute ofEvent_loc_mark ofEvent_cell)
section
variable [Payload] {P:az} {ty:aM} {o Wg C n:Nat} {SB:Blocks} {qy:Nat->Blocks->aN->ag->Prop} {K:aa->ag->Prop} {L0:Nat} {w0:ag} {gs:Array aa} {w w':ag} {sl:Option (Nat×Nat)} {j:Nat} {D:Nat->WX} {q:Nat->Nat} {tag tag':Tag} {f0 f' d0:Nat} {rk zW:Rank} {FM OM vW vU:Blocks} {a a':aa} {t:aG} {st sm st' sm':Int} {es:Array bq}
variable (ja:∀i F v w w1,qy i F v w->Ext F w w1->qy i F v w1) (ha:gs[0]?=some a) (fe:Kept Wg C L0 w0 j D OM w) (S:Sep Wg C SB j D FM OM w) (fq:WgAt ty Wg w st sm)
include ja ha fe S fq
theorem jaz (dV:gW P ty o Wg C n SB qy j gs w t D q 1) (dQ:Mo j (xd D) .sm st sm) (fC:JT n .sm j)
  (h:Goes P true (RM ty Wg FM) DC0 (vB P ty Wg FM K) f0 a w):
  Out P ty o Wg C n SB qy K L0 w0 gs w sl t 0 (psi n (Vc j (xd D)) .sm+iA j D,ranks n D .leaf,(f0+1)+2*jF j D+2*sumTo o q):=by
 rcases aD h with eP|⟨m',rfl,dL⟩
 ·obtain⟨_,hoff,hblk,oF⟩:=eP w (jf w);have nil:∀e∈(#[]:Array bq),∀y,(ai e).touch?=some y->∃b,y.loc=.cell b/\b.block=Wg/\y.kind≠.plain:=by simp
  cases dQ with
  |opn h1 _ _=>exact h1.elim
  |reg h1 h2 h3=>exact nL (tag':=.blk) (f':=0) ja ha dV S fe (hblk ⟨_,fq⟩) (.refl Wg w) fq nil (by simp) (.blk eP) (.reg trivial h2 h3) fC (.inr ⟨rfl,rfl,by omega⟩)
  |last L h1 h2 h3 h4=>exact nL (tag':=.blk) (f':=0) ja ha dV S fe (hblk ⟨_,fq⟩) (.refl Wg w) fq nil (by simp) (.blk eP) (.last L trivial h2 h3 h4) fC (.inr ⟨rfl,rfl,by omega⟩)
  |sema h1 h2=>
   obtain⟨a',hgo,m₂,hk⟩:=oF fq;exact nL (tag':=.l2) ja ha dV S fe hgo (aL w (smA Wg) _) (fq.setSm 0) (sN bk_sem) (sH bk_sem) (.l2 hk) (.fin trivial h2) fC (.inl (by simp only[psi];omega))
  |fin h1 _=>exact h1.elim
 ·obtain⟨a',w',es,hgo,hD,gD⟩:=dL w (jf w);obtain⟨rfl,rfl⟩:=hD;exact nL (tag':=.sm) (f':=m'+1) ja ha dV S fe hgo (.refl Wg _) fq (by simp) (by simp) (.sm gD) dQ fC (.inr ⟨rfl,rfl,by omega⟩)
theorem q9l (dV:gW P ty o Wg C n SB qy j gs w t D q 1) (dQ:Mo j (xd D) .l2 st sm) (fC:JT n .l2 j)
  (h:Goes P true (RM ty Wg FM) DC0 (Aj P ty Wg FM K) f0 a w):
  Out P ty o Wg C n SB qy K L0 w0 gs w sl t 0 (psi n (Vc j (xd D)) .l2+iA j D,ranks n D .leaf,f0+2*jF j D+2*sumTo o q):=by
 rcases aD h with eP|⟨m',rfl,dL⟩
 ·obtain⟨_,hx⟩:=eP w (jf w);obtain⟨hq,rfl,rfl⟩:=dQ.fin_inv trivial;obtain⟨a',hgo,m₂,hk⟩:=hx fq;exact nL (tag':=.en2) ja ha dV S fe hgo (.refl Wg _) fq (sN bk_rd) (sH bk_rd) (.en2 hk) (.fin trivial hq) fC (.inl (by simp only[psi];omega))
 ·obtain⟨a',w',es,hgo,hD,gD⟩:=dL w (jf w);exact rJ ja ha dV S fe fq dQ fC hgo hD (.l2 gD) (by omega)
theorem q3d (dV:gW P ty o Wg C n SB qy j gs w t D q 1) (dQ:Mo j (xd D) .en2 st sm) (fC:JT n .en2 j)
  (h:Goes P true (RM ty Wg FM) DC0 (iH P .enable (MG P ty Wg FM (iH P (.acquire (stA Wg)) K))) f0 a w):
  Out P ty o Wg C n SB qy K L0 w0 gs w sl t 0 (psi n (Vc j (xd D)) .en2+iA j D,ranks n D .leaf,f0+2*jF j D+2*sumTo o q):=by
 rcases aD h with eP|⟨m',rfl,dL⟩
 ·obtain⟨_,a',hgo,m₂,hk⟩:=eP w (jf w);obtain⟨hq,rfl,rfl⟩:=dQ.fin_inv trivial;exact nL (tag':=.acq) ja ha dV S fe hgo (.refl Wg _) fq (sN bk_en) (sH bk_en) (.acq hk) (.fin trivial hq) fC (.inl (by simp only[psi];omega))
 ·obtain⟨a',w',es,hgo,hD,gD⟩:=dL w (jf w);exact rJ ja ha dV S fe fq dQ fC hgo hD (.en2 gD) (by omega)
theorem q85 (dV:gW P ty o Wg C n SB qy j gs w t D q 0) (dQ:Mo j (xd D) (.gos r) st sm) (fC:JT n (.gos r) j) (hr:r<n)
  (h:Goes P true (RM ty Wg FM) DC0 (AtGoM P ty Wg C n qy (n-(r+1)) FM λg' w=>WG P true (Scr P ty Wg C n qy K r) FM (λ_=>False) g' w) f0 a w):
  Out P ty o Wg C n SB qy K L0 w0 gs w sl t 0 (psi n (Vc j (xd D)) (.gos r)+iA j D,ranks n D .leaf,f0+2*jF j D+2*sumTo o q):=by
 rcases aD h with eP|⟨m',rfl,dL⟩
 ·obtain⟨_,a',child,yX,hcr,FP,Wz,ru⟩:=eP w (jf w);have Jd:j+r+1=n:=fC;have ej:n-(r+1)=j:=by omega
  rw[ej]at FP;obtain⟨F,hF,JG,I4⟩:=FP dV.pay;obtain⟨ho,rfl,rfl,_⟩:=dQ.open_inv trivial;have dZ:=dV.tH
  let x:WX:=⟨9,0,0,JG,F,λ_=>False,.bool false⟩
  have S':Sep Wg C SB (j+1) (upd D j x) FM (λ_=>False) w:=by
   refine⟨λi hi b hb=>?_,λi hi b hb=>?_,λi1 i2 h1 h2 eG b hb fO=>?_,λb hb=>?_,λ_ h=>h.elim,S.lW,S.lC,S.lS,S.hCW,S.sW,S.sC⟩
   ·by_cases e:i=j
    ·subst e;rw[am]at hb;have:=S.mF b (hF b hb);exact⟨this.1,this.2.1,this.2.2.1,this.2.2.2.1⟩
    ·rw[aC D _ e]at hb;exact S.wF i (by omega) b hb
   ·by_cases e:i=j
    ·subst e;rw[am]at hb;exact hb.elim
    ·rw[aC D _ e]at hb⊢;exact S.wO i (by omega) b hb
   ·by_cases e:i1=j
    ·subst e;rw[am]at hb;exact hb.elim
    ·rw[aC D _ e]at hb;by_cases e2:i2=j
     ·subst e2;rw[am]at fO;exact(S.mF b (hF b fO)).2.2.2.2 i1 (by omega) hb
     ·rw[aC D _ e2]at fO;exact S.apart i1 i2 (by omega) (by omega) eG b hb fO
   ·have:=S.mF b hb;refine⟨this.1,this.2.1,this.2.2.1,this.2.2.2.1,λi hi hO=>?_⟩;by_cases e:i=j
    ·subst e;rw[am]at hO;exact hO.elim
    ·rw[aC D _ e]at hO;exact this.2.2.2.2 i (by omega) hO
  have rq:=runT_crowd_spawn (P:=P) (sl:=sl) (i:=0) ha (by simpa using yX);rw[dV.size]at rq;have gK:=dV.spawn S' (a':=a') (child:=child) rfl rfl (.own (by rw[show(9:Nat)=9 from rfl]) rfl rfl I4) (fn:=a.frame.fn) (pos:=a.frame.place) (fn':=child.frame.fn) (pos':=a.frame.place);have ex:xd (upd D j x)=upd (xd D) j ⟨7,0,0⟩:=by rw[Gj];rfl
  have eV:Vc (j+1) (xd (upd D j x))=Vc j (xd D)+1:=by
   rw[ex];simp only[Vc,sumTo,am];rw[sumTo_upd_out (xd D) _ cnt (jd _)];rfl
  have eS:iA (j+1) (upd D j x)=iA j D+9:=by
   simp only[iA,sumTo,am];rw[sumTo_upd_out D _ WX.stage (jd _)]
  have xA:OpenSt (j+1) (xd (upd D j x)):=λi hi=>by
   rw[ex];by_cases e:i=j
   ·subst e;rw[am];simp
   ·rw[aC (xd D) _ e];exact ho i (by omega)
  have ha':((gs.setIfInBounds 0 a').push child)[0]?=some a':=by
   have MF:0<(gs.setIfInBounds 0 a').size:=by simp[dV.size];omega
   rw[bw MF];simp
  have pU:Kept Wg C L0 w0 (j+1) (upd D j x) (λ_=>False) w:=by
   refine⟨fe.keep,fe.lW,fe.lC,λi hi b hb=>?_,λ_ h=>h.elim,fe.tape,fe.os,fe.output,fe.nb⟩;by_cases e:i=j
   ·subst e;rw[am]at hb;exact hb.elim
   ·rw[aC D _ e]at hb;exact fe.lO i (by omega) b hb
  refine⟨_,_,_,rq,?_,_,w,sl,j+1,upd D j x,q,.wg r,0,0,Wz,FM,λ_=>False,a',_,_,rfl,ha',.wg (by omega) ru,?_,S',fq,?_,(by show j+1+r=n;omega),pU,rfl⟩
  ·refine bk _ _ ?_;rw[eS];simp only[psi];omega
  ·exact gK
  ·have e:((Vc j (xd D)+kR (.gos r):Nat):Int)*KK=((Vc (j+1) (xd (upd D j x))+kR (.wg r):Nat):Int)*KK:=by rw[eV];simp[kR]
   rw[e];exact .opn trivial xA (by simp)
 ·obtain⟨a',w',es,hgo,hD,gD⟩:=dL w (jf w);exact rJ ja ha dV S fe fq dQ fC hgo hD (.gos hr gD) (by omega)
theorem jba {f:ag->Rank} (dV:gW P ty o Wg C n SB qy j gs w t D q 0) (dQ:Mo j (xd D) (.wg r) st sm) (fC:JT n (.wg r) j) (hr:r<=n)
  (h:WGo P true (Scr P ty Wg C n qy K r) (.node f) FM OM a w):
  Out P ty o Wg C n SB qy K L0 w0 gs w sl t 0 (psi n (Vc j (xd D)) (.wg r)+iA j D,ranks n D (.node f),0+2*jF j D+2*sumTo o q):=by
 obtain⟨vW,vU,a',w',es,hgo,ok,pE⟩:=h.2 w (Ext.refl ..);have lW:=S.lW;have lC:=S.lC;have nO:∀b,OM b->b≠Wg/\b≠C:=λb hb=>⟨(S.mF b (S.mO b hb).1).2.1,(S.mF b (S.mO b hb).1).2.2.1⟩
 have hW:w'.heap[Wg]?=w.heap[Wg]?:=ok.keep Wg lW λh=>(nO Wg h).1 rfl;have hC:w'.heap[C]?=w.heap[C]?:=ok.keep C lC λh=>(nO C h).2 rfl;have gU:WgAt ty Wg w' st sm:=by unfold WgAt at *; rw[hW];exact fq
 have eY:=ok.size;have S':Sep Wg C SB j D vW vU w':=by
  refine⟨λi hi b hb=>let x:=S.wF i hi b hb;⟨xll x.1 eY,x.2⟩,S.wO,S.apart,λb hb=>?_,λb hb=>⟨ok.own b hb,λi hi hf=>?_⟩,xll S.lW eY,xll S.lC eY,λb hb=>xll (S.lS b hb) eY,S.hCW,S.sW,S.sC⟩
  ·refine⟨ok.low b hb,?_⟩;rcases ok.new b hb with h|h
   ·exact(S.mF b h).2
   ·exact⟨by omega,by omega,λhs=>by have:=S.lS b hs;omega,λi hi ho=>by have:=(S.wF i hi b (S.wO i hi b ho)).1;omega⟩
  ·rcases ok.xV b hb with h|h
   ·exact(S.mO b h).2 i hi hf
   ·have:=(S.wF i hi b hf).1;omega
 have tJ:MS P ty Wg C n qy K (.wg r) 0 (aA 0 es) (f w) vW vU a' w':=by
  rw[deafBehind_idle (λe he=>⟨(yQ (Wg:=Wg) (ok.ev e he) ok.low).1,(yQ (Wg:=Wg) (ok.ev e he) ok.low).2.1⟩) 0];exact .wg hr pE
 refine callerStep ja ha dV S hgo (tag':=.wg r) (f':=0) tJ S'
  (λi hi=>⟨⟨eY,λb hb=>ok.keep b (S.wF i hi b hb).1 λho=>(S.mO b ho).2 i hi hb⟩,Qm hW hC⟩) eY (λop dZ=>?_) (λe he y hy=>(Lb (ok.ev e he) hy).1)
  (λe he=>(yQ (Wg:=Wg) (ok.ev e he) ok.low).2.2.1) (λe he=>Aq (yQ (Wg:=Wg) (ok.ev e he) ok.low).2.2.2) ?_ gU dQ fC ?_ (.inr (.inl ⟨rfl,⟨w,rfl⟩⟩))
 ·obtain⟨e,he,rfl⟩:=aj dZ;refine⟨rfl,λy hy=>.inr ?_⟩;obtain⟨h1,h2,h3,h4⟩:=Lb (ok.ev e he) hy;have nA:∀{b:Nat},vW b->b≠Wg/\b≠C/\¬SB b/\∀i,i<j->¬(D i).O b:=λhb=>(S'.mF _ hb).2;have rT:∀{B:Blocks} {l:Loc},sJ B l->∃b,B b/\((∃a,l=.cell a/\a.block=b)\/l=.obj b):=by
   intro B l hl;cases l with
   |cell a=>exact⟨_,hl,.inl ⟨a,rfl,rfl⟩⟩
   |obj r=>exact⟨_,hl,.inr rfl⟩
   |_=>exact hl.elim
  have same:∀{b b':Nat} {l:Loc},((∃a:Addr,l=.cell a/\a.block=b)\/l=.obj b)->((∃a:Addr,l=.cell a/\a.block=b')\/l=.obj b')->b=b':=by
   intro b b' l h1 h2;rcases h1 with⟨a,rfl,rfl⟩|rfl
   ·rcases h2 with⟨a',e,rfl⟩|e
    ·cases e;rfl
    ·cases e
   ·rcases h2 with⟨a',e,rfl⟩|e
    ·cases e
    ·cases e;rfl
  obtain⟨b,hb,hl⟩:=rT h3;have fP:=nA hb;refine⟨?_,λk k1 kj=>?_,λuq k k1 kj=>?_⟩
  ·rintro⟨c,hc,hs⟩;rw[hc]at hl;rcases hl with⟨a1,e,rfl⟩|e
   ·cases e;rcases hs with hs|hs
    ·exact fP.2.2.1 hs
    ·exact fP.1 hs
   ·cases e
  ·rintro⟨i,hi,rfl,h5⟩;rcases h5 with h5|h5
   ·obtain⟨b',fO,nS⟩:=rT h5;obtain rfl:=same hl nS;exact fP.2.2.2 i hi fO
   ·rw[h5]at hl;rcases hl with⟨a1,e,rfl⟩|e
    ·cases e;exact fP.2.1 rfl
    ·cases e
  ·rintro⟨i,hi,rfl,h5⟩;obtain⟨b',⟨fO,_⟩,nS⟩:=rT h5;obtain⟨b3,fM,hl3⟩:=rT (h4 uq);obtain rfl:=same hl nS;obtain rfl:=same hl hl3;exact(S'.mO _ fM).2 i hi fO
 ·obtain⟨cs,h1,h2⟩:=dV.pay;exact⟨cs,by rw[hC];exact h1,h2⟩
 ·refine⟨λb hb=>(ok.keep b (by have:=fe.lW;omega) λho=>by have:=fe.lM b ho;omega).trans (fe.keep b hb),fe.lW,fe.lC,fe.lO,λb hb=>?_,ok.tape.trans fe.tape,ok.os.trans fe.os,ok.output.trans fe.output,λx=>ok.nb (fe.nb x)⟩;rcases ok.xV b hb with h|h
  ·exact fe.lM b h
  ·have:=fe.lW;omega
end
end
section
open Go Go.Conc Go.ConcN Sim
open Go.ConcR (KK WgAt stA smA rd wr mk Payload DC0 g_of_ofEvents Bk bk_of_mute ofEvent_loc_mark ofEvent_cell ofEvent_mk)
section
variable {o Wg C n:Nat} {SB:Blocks} {D:Nat->WX} {w:ag} {t:aG}
theorem ZR (tr:wz o Wg C SB n D w t) (ho:0<o) {q:Nat} (hq:t.act? q=some (.mark (.acquire (stA Wg)))) (hg:t.g? q=some 0) (hh:t.heard q) (all:∀i,i<n->∃r,RelBy (stA Wg) t (o+i) r/\r<q) (h0:Deaf t 0=0):
  yo (λb=>SB b\/b=Wg) w (o+n) t:=by
 obtain⟨p,p0,p1,p2⟩:=tr.norel;have late:∀{i g:Nat},t.g? i=some g->o<=g->t.counts i->bG t i q:=by
  intro i g Dq hle hc;obtain⟨op,dZ,rfl⟩:=au.1 Dq;have hb:=tr.ct.gs i op dZ;obtain⟨r,hr,hrq⟩:=all (op.g-o) (by omega);rw[show o+(op.g-o)=op.g by omega]at hr;have hrp:p<=r:=cx λh=>by have:=p1 r _ h hr.g;omega
  have he:bG t r q:=.single (.inr ⟨.marked hrq (.inr hr.act) hq (λk hk _=>p2 k (by omega)),hr.heard,hh⟩);have hle:i<=r:=cx λeB=>hr.after i eB Dq hc;rcases cH i r with eB|mK
  ·exact .trans (.single (.inl ⟨eB,op.g,Dq,hr.g⟩)) he
  ·obtain rfl:i=r:=by omega
   exact he
 obtain⟨B,hB⟩:=q4a t;refine⟨⟨B,tr.ct.nr,λi a ha hm=>?_,λi g Dq eG hc=>?_,h0,hB⟩,tr.seen,tr.mem,tr.ct.quiet,λop dZ=>?_⟩
 ·rcases tr.known i a ha with h|h|⟨g,h1,h2,h3⟩
  ·exact .inl h
  ·exact .inr h
  ·refine .inl ?_;obtain⟨z,hz,hz0⟩:=au.1 hg;exact⟨q,z,hz,hz0,.inr (late h1 h2 ⟨a,ha,hm,.inl h3⟩)⟩
 ·rcases cH g o with eB|mK
  ·exact tr.hand i g Dq eG eB hc
  ·exact⟨q,hg,late Dq mK hc⟩
 ·obtain⟨i,hi,rfl⟩:=Array.mem_iff_getElem.1 dZ;have:=tr.ct.gs i _ (aI hi);omega
end
section
variable [Payload] (P:az) (ty:aM) (o Wg C n:Nat) (SB:Blocks) (qy:Nat->Blocks->aN->ag->Prop) (K:aa->ag->Prop) (L0:Nat) (w0:ag)
structure Joined (gs:Array aa) (a:aa) (w:ag) (t:aG) (D:Nat->WX) (FM:Blocks) (q:Nat->Nat):Prop where
 size:gs.size=o+n
 main:gs[0]?=some a
 k:K a w
 leavers:bH P t gs q
 past:yo (λb=>SB b\/b=Wg) w gs.size t
 res:∀i,i<n->qy i (D i).F (D i).val w/\Has C i (D i).val w
 pay:cg C n w
 sep:Sep Wg C SB n D FM (λ_=>False) w
 kept:Kept Wg C L0 w0 n D (λ_=>False) w
end
section
variable [Payload] {P:az} {ty:aM} {o Wg C n:Nat} {SB:Blocks} {qy:Nat->Blocks->aN->ag->Prop} {K:aa->ag->Prop} {L0:Nat} {w0:ag} {gs:Array aa} {w w':ag} {sl:Option (Nat×Nat)} {j:Nat} {D:Nat->WX} {q:Nat->Nat} {tag tag':Tag} {f0 f' d0:Nat} {rk zW:Rank} {FM OM vW vU:Blocks} {a a':aa} {t:aG} {st sm st' sm':Int} {es:Array bq}
section
variable (ja:∀i F v w w1,qy i F v w->Ext F w w1->qy i F v w1) (ha:gs[0]?=some a) (fe:Kept Wg C L0 w0 j D OM w) (S:Sep Wg C SB j D FM OM w) (fq:WgAt ty Wg w st sm)
include ja ha fe S fq
theorem q2u (dV:gW P ty o Wg C n SB qy j gs w t D q 0) (dQ:Mo j (xd D) .acq st sm) (fC:JT n .acq j)
  (h:Goes P true (RM ty Wg FM) DC0 (iH P (.acquire (stA Wg)) K) f0 a w):
  (∃eZ a' ops q',runT P (crowd gs w sl) 0=(.next (crowd eZ w sl),ops)/\Joined P o Wg C n SB qy K L0 w0 eZ a' w (t++ops) D FM q')\/
  Out P ty o Wg C n SB qy K L0 w0 gs w sl t 0 (psi n (Vc j (xd D)) .acq+iA j D,ranks n D .leaf,f0+2*jF j D+2*sumTo o q):=by
 rcases aD h with eP|⟨m',rfl,dL⟩
 ·left;obtain⟨_,a',hgo,hk⟩:=eP w (jf w);obtain⟨hq,rfl,rfl⟩:=dQ.fin_inv trivial;obtain rfl:j=n:=fC;have dZ:=dV.tH;have hst:∀i,i<j->(D i).stage=1:=λi hi=>by
   have:=hq i hi;simp only[xd]at this;split at this
   ·omega
   ·exact this
  have eT:=br (P:=P) (sl:=sl) (i:=0) ha (show ay P (0==0) a w=_ from hgo);have gK:=dV.step0 (fn:=a.frame.fn) (pos:=a.frame.place) ja S (es:=#[mk (.acquire (stA Wg))]) (w':=w) (a:=a) (a':=a') (λi hi=>⟨Ext.refl ..,bp w⟩) (jd _)
   (Tq (by intro e he y hy;simp at he;subst he;cases hy)) (by intro e he y hy;simp at he;subst he;cases hy) (Ma (by simp)) (by intro e he y hy;simp at he;subst he;cases hy) dV.pay
  have e1:ax 0 a.frame.fn a.frame.place #[mk (.acquire (stA Wg))]=#[{g:=0,fn:=a.frame.fn,pos:=a.frame.place,act:=.mark (.acquire (stA Wg))}]:=by rw[ofEvents_eq];simp[ofEvent_mk]
  have hy:(t++#[({g:=0,fn:=a.frame.fn,pos:=a.frame.place,act:=.mark (.acquire (stA Wg))}:MemOp)])[t.size]?=some {g:=0,fn:=a.frame.fn,pos:=a.frame.place,act:=.mark (.acquire (stA Wg))}:=by simp
  have hP:=ZR gK.tr dZ (q:=t.size) (by rw[e1,act?_of hy]) (by rw[e1];simp[bV]) (by rw[e1];exact⟨0,by simp[bV],by rw[deaf_old (jd _)];exact dV.deaf0⟩)
   (λi hi=>by
    obtain⟨r,hr⟩:=dV.rel i hi (by rw[hst i hi];omega)
    exact⟨r,hr.appOther g_of_ofEvents (by omega),lt_of_act? hr.act⟩) (by rw[gK.deaf0];rfl)
  have Pf:∀i,i<j->∃g,((gs.map (woken P a a' w)).setIfInBounds 0 a')[o+i]?=some g/\QuitsD P (D i).fuel (D i).deaf g/\qy i (D i).F (D i).val w:=λi hi=>by
   obtain⟨g,hg,hs⟩:=gK.wk i hi;have h1:=hst i hi;cases hs with
   |own h9 _ _ _=>omega
   |lib h hr=>exact⟨g,hg,h.quits h1,hr⟩
  refine⟨_,a',_,λi=>if i<o then q i else(D (i-o)).fuel,eT,by simp[dV.size],bB _ _ _ (by rw[dV.size];omega),hk,⟨λi g h0 hg=>?_,λk ol=>?_⟩,?_,λi hi=>⟨?_,?_⟩,dV.pay,S.none,fe.none⟩
  ·show QuitsD P (if i<o then q i else(D (i-o)).fuel) _ g;by_cases eB:i<o
   ·rw[if_pos eB];exact gK.old i g h0 eB hg
   ·rw[if_neg eB];have hi:i<o+j:=by have:=(kg hg).1;rw[gK.size]at this;exact this
    obtain⟨g',gD,Bb,_⟩:=Pf (i-o) (by omega);rw[show o+(i-o)=i by omega]at gD;obtain rfl:g=g':=by rw[hg]at gD;exact xoi gD
    have:=gK.deafW (i-o) (by omega);rw[show o+(i-o)=i by omega]at this;rw[this];exact Bb
  ·rw[gK.size]at ol;exact gK.above k ol
  ·rw[gK.size];exact hP
  ·exact(Pf i hi).choose_spec.2.2
  ·exact dV.has i hi (by rw[hst i hi];omega)
 ·right;obtain⟨a',w',es,hgo,hD,gD⟩:=dL w (jf w);exact rJ ja ha dV S fe fq dQ fC hgo hD (.acq gD) (by omega)
end
theorem WS.running_of {d:WX} (h:WS P ty Wg C n qy i d g w) (hs:d.stage≠1):g.status=.running:=by
 cases h with
 |own h1 h2 h3 h=>exact J8 (λ_ _ _ _ x=>x.1) h
 |lib h hr=>exact h.running_of hs
theorem someone_runs (ha:gs[0]?=some a) (jN:MS P ty Wg C n qy K tag f0 d0 rk FM OM a w) (dV:gW P ty o Wg C n SB qy j gs w t D q d0) (dQ:Mo j (xd D) tag st sm):
  ∃(i:Nat) (g:aa),gs[i]?=some g/\g.status=.running:=by
 rcases jN.status with⟨hs,_⟩|⟨_,rfl⟩
 ·exact⟨0,a,ha,hs⟩
 ·have xs:∀{i:Nat},(xd D i).stage≠1->(D i).stage≠1:=λ{i} h e=>h (by simp only[xd,e];rfl);cases dQ with
  |opn h1 _ _=>exact h1.elim
  |reg _ _ h3=>
   obtain⟨i,hi,h5⟩:=exists_counted h3;obtain⟨g,hg,hs⟩:=dV.wk i hi;exact⟨o+i,g,hg,hs.running_of (xs (by omega))⟩
  |last L _ h2 h3 _=>
   obtain⟨g,hg,hs⟩:=dV.wk L h2;exact⟨o+L,g,hg,hs.running_of (xs (by omega))⟩
  |sema h1 _=>rcases h1 with h1|h1<;>cases h1
  |fin h1 _=>exact h1.elim
theorem all_awake (ha:gs[0]?=some a) (jN:MS P ty Wg C n qy K tag f0 d0 rk FM OM a w) (dV:gW P ty o Wg C n SB qy j gs w t D q d0):∀g∈gs,awake g:=by
 intro g hg tm;obtain⟨i,hi⟩:=Array.mem_iff_getElem?.1 hg;rcases aU i with rfl|jC
 ·rw[ha]at hi;cases hi;rcases jN.status with⟨hs,_⟩|⟨hs,_⟩<;>rw[hs]<;>simp
 ·by_cases eB:i<o
  ·rcases(dV.old i g jC eB hi).status with h|h<;>rw[h]<;>simp
  ·have qP:i<o+j:=by have:=(kg hi).1;rw[dV.size]at this;exact this
   obtain⟨g',gD,hs⟩:=dV.wk (i-o) (by omega);rw[show o+(i-o)=i by omega]at gD;rw[hi]at gD;cases gD;rcases hs.status with h|h<;>rw[h]<;>simp
theorem YW (ja:∀i F v w w1,qy i F v w->Ext F w w1->qy i F v w1) (hn:n<2147483648):∀(μ:Mea) (m:Machine) (t:aG),rD P ty o Wg C n SB qy K L0 w0 μ m t->
  (∃eZ a' w' sl' ops D FM q',stepT P m=(.next (crowd eZ w' sl'),ops)/\Joined P o Wg C n SB qy K L0 w0 eZ a' w' (t++ops) D FM q')\/
  (∃m' ops μ',stepT P m=(.next m',ops)/\MLt (n+1) μ' μ/\rD P ty o Wg C n SB qy K L0 w0 μ' m' (t++ops)):=by
 rintro μ m t ⟨gs,w,sl,j,D,q,tag,f0,d0,rk,FM,OM,a,st,sm,rfl,ha,jN,dV,S,fq,dQ,fC,fe,rfl⟩;obtain⟨i,g,d,sl',hg,eT,dL⟩:=crowd_pick (P:=P) (w:=w) (sl:=sl) (all_awake ha jN dV) (someone_runs ha jN dV dQ);rw[dL];have jN:=jN.rely (w1:=w.at d) ⟨⟨jd _,λ_ _=>rfl⟩,λx=>x⟩;have dV:=dV.at ja d;have fq:WgAt ty Wg (w.at d) st sm:=fq;have S:Sep Wg C SB j D FM OM (w.at d):=⟨S.wF,S.wO,S.apart,S.mF,S.mO,S.lW,S.lC,S.lS,S.hCW,S.sW,S.sC⟩
 have fe:Kept Wg C L0 w0 j D OM (w.at d):=⟨fe.keep,fe.lW,fe.lC,fe.lO,fe.lM,fe.tape,fe.os,fe.output,fe.nb⟩
 generalize w.at d=w at*;have dZ:=dV.tH;rcases aU i with rfl|jC
 ·obtain rfl:g=a:=by rw[ha]at hg;exact(xoi hg).symm
  cases jN with
  | @wg r _ _ _ _ _ hr h=>
   right;cases rk with
   |node f=>exact jba ja ha fe S fq dV dQ fC hr h
   |leaf=>
    have hs:=h w (Ext.refl ..);cases r with
    |zero=>
     obtain⟨A,rW,mr,m₂,hk⟩:=hs.2 ⟨_,_,fq⟩;obtain⟨m₁,ops,μ',h1,h2,h3⟩:=Pv (sl:=sl') ja ha fe S fq rW mr dV (dQ.reopen trivial trivial rfl (by simp)) fC hk;exact⟨m₁,ops,μ',h1,h2.lt1 (by simp only[psi];omega),h3⟩
    |succ r=>
     obtain⟨m₂,hk⟩:=hs.2 ⟨_,_,fq⟩;obtain⟨m₁,ops,μ',h1,h2,h3⟩:=QM (sl:=sl') ja ha fe S fq dV (dQ.reopen (tag':=.kdS r) trivial trivial rfl (by simp)) (by have:j+(r+1)=n:=fC;show j+r+1=n;omega) (by omega) hk;exact⟨m₁,ops,μ',h1,h2.lt1 (by simp only[psi];omega),h3⟩
  |kdS hr h=>exact .inr (QM ja ha fe S fq dV dQ fC hr h)
  |ad hr h=>exact .inr (q8r ja hn ha fe S fq dV dQ fC hr h)
  |rs hr h=>exact .inr (jai ja ha fe S fq dV dQ fC hr h)
  |en hr h=>exact .inr (q81 ja ha fe S fq dV dQ fC hr h)
  |gos hr h=>exact .inr (q85 ja ha fe S fq dV dQ fC hr h)
  |kd h1 h2 h=>exact .inr (Pv ja ha fe S fq h1 h2 dV dQ fC h)
  |anch h1 h2 h=>exact .inr (XC ja hn ha fe S fq h1 h2 dV dQ fC h)
  |ld h1 h2 h=>exact .inr (PW ja hn ha fe S fq h1 h2 dV dQ fC h)
  |cs h1 h2 h=>exact .inr (q8w ja hn ha fe S fq h1 h2 dV dQ fC h)
  |ws h=>exact .inr (jbb ja ha fe S fq dV dQ fC h)
  |sm h=>exact .inr (jaz ja ha fe S fq dV dQ fC h)
  |blk h=>simp at eT
  |l2 h=>exact .inr (q9l ja ha fe S fq dV dQ fC h)
  |en2 h=>exact .inr (q3d ja ha fe S fq dV dQ fC h)
  |acq h=>
   rcases q2u (sl:=sl') ja ha fe S fq dV dQ fC h with⟨eZ,a',ops,q',h1,h2⟩|h
   ·exact .inl ⟨eZ,a',w,sl',ops,D,FM,q',h1,h2⟩
   ·exact .inr h
 ·right;by_cases eB:i<o
  ·exact q41 ha jN dV S fC fe fq (λtag' ht=>dQ.retag ht) jC eB hg eT
  ·have qP:i<o+j:=by have:=(kg hg).1;rw[dV.size]at this;exact this
   obtain⟨i',rfl⟩:∃i',i=o+i':=⟨i-o,by omega⟩
   have fu:i'<j:=by omega
   obtain⟨g',gD,hs⟩:=dV.wk i' fu;obtain rfl:g=g':=by rw[hg]at gD;exact xoi gD
   cases hs with
   |own h9 hd hf hw=>
    generalize MH:(D i').rank=JG at hw;cases JG with
    |leaf=>exact XF ja ha jN dV S fC fe fq dQ fu hg h9 hd (hw w (Ext.refl ..))
    |node f=>exact q43 ja ha jN dV S fC fe fq dQ fu hg h9 hd MH hw
   |lib h hr=>exact q38 ja hn ha jN dV S fC fe fq dQ fu hg eT h hr
theorem X3 (ja:∀i F v w w1,qy i F v w->Ext F w w1->qy i F v w1) (hn:n<2147483648):∀(μ:Mea) (m:Machine) (t:aG),rD P ty o Wg C n SB qy K L0 w0 μ m t->
  ∃N eZ a' w' sl' t' D FM q',runNT P N m t=(.next (crowd eZ w' sl'),t')/\Joined P o Wg C n SB qy K L0 w0 eZ a' w' t' D FM q':=by
 intro μ;induction μ using(MLt.wf (n+1)).induction with
 |_ μ ih=>
  intro m t h;rcases YW ja hn μ m t h with⟨eZ,a',w',sl',ops,D,FM,q',h1,h2⟩|⟨m',ops,μ',h1,h2,h3⟩
  ·exact⟨1,eZ,a',w',sl',_,D,FM,q',by simp only[runNT,h1],h2⟩
  ·obtain⟨N,eZ,a',w',sl',t',D,FM,q',h4,h5⟩:=ih μ' h2 m' _ h3;exact⟨N+1,eZ,a',w',sl',t',D,FM,q',by simp only[runNT,h1];exact h4,h5⟩
end
theorem runNT_trans {P:az} (a:Nat) {b:Nat} {m m':Machine} {t':aG} {r:Stepped×aG} (h:runNT P a m t=(.next m',t')) (k:runNT P b m' t'=r):runNT P (a+b) m t=r:=by
 rw[runNT_add,h];exact k
theorem nZ.app {u:aG} {l:Loc} (h:nZ t l) (hu:∀op∈u,∀x,op.act.touch?=some x->x.loc≠l):nZ (t++u) l:=by
 intro i a ha;obtain⟨op,dZ,pJ⟩:=bZ ha;rcases aW dZ with⟨hi,fD⟩|⟨_,qD⟩
 ·exact h i a (by rw[touchAt_of fD];exact pJ)
 ·exact hu op qD a pJ
theorem yo.at {SB:Blocks} (h:yo SB w n t) (d:Nat):yo SB (w.at d) n t:=⟨h.past,h.seen,h.mem,h.quiet,h.gs⟩
section
variable {P:az} {SB:Blocks}
theorem ZO:∀(M:Nat) (gs:Array aa) (a:aa) (w:ag) (sl:Option (Nat×Nat)) (t:aG) (q:Nat->Nat),sumTo gs.size q<=M->gs[0]?=some a->a.status=.running->bH P t gs q->yo SB w gs.size t->
  ∃(N:Nat) (eZ:Array aa) (iX:Option (Nat×Nat)) (d1:Nat) (sl':Option (Nat×Nat)) (t':aG) (q':Nat->Nat) (d:Nat),
   runNT P N (crowd gs w sl) t=(.next (crowd eZ (w.at d1) iX),t')/\stepT P (crowd eZ (w.at d1) iX)=runT P (crowd eZ (w.at d) sl') 0/\eZ.size=gs.size/\eZ[0]?=some a/\bH P t' eZ q'/\yo SB w eZ.size t'/\∀l,nZ t l->nZ t' l:=by
 intro M;induction M with
 |zero|succ M ih=>
  intro gs a w sl t q hM h0 eT hL hP;have haw:∀g∈gs,awake g:=by
   intro g hg;obtain⟨i,hi,rfl⟩:=Array.mem_iff_getElem.1 hg;rcases aU i with rfl|jC
   ·have:gs[0]=a:=by simpa[aI hi]using h0
    rw[this];exact awake_of (.inl eT)
   ·exact awake_of ((hL.old i _ jC (aI hi)).status.elim .inl λx=>.inr (.inr x))
  obtain⟨i,g,d,sl',hi,hg,hst⟩:=crowd_pick (P:=P) (w:=w) (sl:=sl) haw ⟨0,a,h0,eT⟩;rcases aU i with rfl|jC
  ·exact⟨0,gs,sl,w.drawn,sl',t,q,d,rfl,hst,rfl,h0,hL,hP,λ_ h=>h⟩
  ·have hq:=hL.old i g jC hi;have U7:(i==0)=false:=by simp;omega
   have eB:i<gs.size:=(kg hi).1;cases MJ:q i with
   |zero=>rw[MJ]at hq;rw[hq.1]at hg;cases hg
   |succ k=>
    rw[MJ]at hq;rcases hq with⟨hf,_⟩|⟨_,g',es,hm,BK,Bb⟩
    ·rw[hf]at hg;cases hg
    have oH:=br (P:=P) (sl:=sl') (i:=i) hi (by rw[U7];exact BK (w.at d));have eY:((gs.map (woken P g g' (w.at d))).setIfInBounds i g').size=gs.size:=by simp
    have Od:sumTo gs.size (upd q i k)+(k+1)=sumTo gs.size q+k:=by
     have:=sumTo_upd q k id eB;simpa[MJ]using this
    first
    |(exfalso;omega)
    |obtain⟨N,eZ,iX,d1,NU,t',q',d',hr,mJ,hz,qX,qW,ou,jJ⟩:=ih ((gs.map (woken P g g' (w.at d))).setIfInBounds i g') a (w.at d) sl' (t++ax i g.frame.fn g.frame.place es) (upd q i k) (by rw[eY];omega)
      (by
       have eG:i≠0:=by omega
       rw[xne eG,bL,h0]
       simp[woken_run eT]) eT
      ⟨λj x hj hx=>by
       by_cases Dn:i=j
       ·subst Dn;rw[xsl (by simpa using eB)]at hx;obtain rfl:=xoi hx;rw[am,Deaf_own];exact Bb
       ·rw[xne Dn,bL]at hx;obtain⟨y,hy,rfl⟩:=au.1 hx;have UY:=hL.old j y hj hy;rw[bJ UY,aC q k (Ne.symm Dn),bz t Dn _ (λop dZ=>by obtain⟨e,_,rfl⟩:=aj dZ;rfl)];exact UY,λj hj=>by
       rw[bz t (g':=i) (by simp at hj;omega) _ (λop dZ=>by obtain⟨e,_,rfl⟩:=aj dZ;rfl)]
       exact hL.above j (by simpa using hj)⟩
      (by rw[eY];exact(hP.at d).mute (by omega) eB hm)
     exact⟨N+1,eZ,iX,d1,NU,t',q',d',by simp only[runNT,hst,oH];exact hr,mJ,hz.trans eY,qX,qW,⟨ou.past,ou.seen,ou.mem,ou.quiet,ou.gs⟩,
      λl hl=>jJ l (hl.app λop dZ x hx=>by
       obtain⟨e,he,rfl⟩:=aj dZ
       rw[touch_mute (hm e he)]at hx;cases hx)⟩
def EvZ (SB:Blocks) (B:Nat) (e:bq):Prop:=EvL (ShB SB) B e/\∀y,(ai e).touch?=some y->y.loc.isMemory=true
theorem yo.evs (h:yo SB w n t) (hn:0<n) (eY:w.heap.size<=w'.heap.size) (iO:∀e∈es,EvZ SB w'.heap.size e) (fn:bd) (pos:String):yo SB w' n (t++ax 0 fn pos es):=by
 obtain⟨B,hP⟩:=h.past;refine⟨⟨max B w'.heap.size,(hP.mono (Nat.le_max_left ..)).own λe he=>?_⟩,Hf (λop dZ=>(h.seen op dZ).mono eY) (λop dZ=>?_),Cw h.mem (λop dZ x hx=>?_),h.quiet.app λop dZ x hx hs=>?_,λop dZ=>?_⟩
 ·have:=(iO e he).1;exact⟨this.1,this.2.1,this.2.2.1,MemAct.low_mono (Nat.le_max_right ..) this.2.2.2⟩
 ·obtain⟨e,he,rfl⟩:=aj dZ;exact Aq (iO e he).1.2.2.2
 ·obtain⟨e,he,rfl⟩:=aj dZ;exact(iO e he).2 x hx
 ·obtain⟨e,he,rfl⟩:=aj dZ;exact⟨(iO e he).1.1 x hx hs,λ_=>rfl⟩
 ·rcases bX.1 dZ with h'|h'
  ·exact h.gs op h'
  ·obtain⟨e,he,rfl⟩:=aj h';exact hn
theorem CZ {gs:Array aa} {a:aa} {sl:Option (Nat×Nat)} {q:Nat->Nat} (h0:gs[0]?=some a) (eT:a.status=.running) (hL:bH P t gs q) (hP:yo SB w gs.size t)
  (hs:∀d,∃a' w' es,ay P true a (w.at d)=.go a' w' es/\w.heap.size<=w'.heap.size/\∀e∈es,EvZ SB w'.heap.size e):
  ∃(N:Nat) (eZ:Array aa) (a':aa) (d:Nat) (w':ag) (es:Array bq) (sl':Option (Nat×Nat)) (t':aG) (q':Nat->Nat),
   runNT P N (crowd gs w sl) t=(.next (crowd eZ w' sl'),t')/\ay P true a (w.at d)=.go a' w' es/\eZ.size=gs.size/\eZ[0]?=some a'/\bH P t' eZ q'/\yo SB w' eZ.size t'/\
   ∀l,nZ t l->(∀e∈es,∀x,(ai e).touch?=some x->x.loc≠l)->nZ t' l:=by
 obtain⟨N,eZ,iX,d1,sl',t',q',d,hr,hst,hz,qX,qW,ou,jJ⟩:=ZO (P:=P) _ gs a w sl t q (jd _) h0 eT hL hP;obtain⟨a',w',es,hgo,eY,kJ⟩:=hs d;have oH:=br (P:=P) (sl:=sl') (i:=0) qX (show ay P (0==0) a (w.at d)=_ from hgo);have eB:0<eZ.size:=(kg qX).1;have si:((eZ.map (woken P a a' w')).setIfInBounds 0 a').size=eZ.size:=by simp
 refine⟨N+1,(eZ.map (woken P a a' w')).setIfInBounds 0 a',a',d,w',es,sl',t'++ax 0 a.frame.fn a.frame.place es,q',?_,hgo,si.trans hz,by simp[eB],⟨λj x hj hx=>?_,λj hj=>?_⟩,?_,λl hl he=>?_⟩
 ·rw[show N+1=N+1 from rfl];exact runNT_trans _ hr (by simp only[runNT,hst,oH])
 ·have eG:0≠j:=by omega
  rw[xne eG,bL]at hx;obtain⟨y,hy,rfl⟩:=au.1 hx;have hq:=qW.old j y hj hy;rw[bJ hq,bz t' (by omega) _ (λop dZ=>by obtain⟨e,_,rfl⟩:=aj dZ;rfl)];exact hq
 ·rw[bz t' (g':=0) (by simp at hj;omega) _ (λop dZ=>by obtain⟨e,_,rfl⟩:=aj dZ;rfl)];exact qW.above j (by simpa using hj)
 ·rw[si];exact(ou.at d).evs eB eY kJ _ _
 ·refine(jJ l hl).app λop dZ x hx=>?_;obtain⟨e,h1,rfl⟩:=aj dZ;exact he e h1 x hx
theorem Zm {R:ag->ag->Prop} {Stop:aa->ag->Prop} (hR:∀w d,R w (w.at d)) (hs:∀g w,Stop g w->g.status=.running):∀(n:Nat) (gs:Array aa) (a:aa) (w:ag) (sl:Option (Nat×Nat)) (t:aG) (q:Nat->Nat),gs[0]?=some a->bH P t gs q->yo SB w gs.size t->
   Goes P true R DC0 Stop n a w->
   ∃(N:Nat) (eZ:Array aa) (a':aa) (d:Nat) (sl':Option (Nat×Nat)) (t':aG) (q':Nat->Nat),
    runNT P N (crowd gs w sl) t=(.next (crowd eZ (w.at d) sl'),t')/\eZ.size=gs.size/\eZ[0]?=some a'/\Stop a' (w.at d)/\bH P t' eZ q'/\yo SB (w.at d) eZ.size t':=by
 intro n;induction n with
 |zero=>exact λgs a w sl t q h0 hL hP hG=>⟨0,gs,a,w.drawn,sl,t,q,rfl,rfl,h0,hG w (hR w w.drawn),hL,hP⟩
 |succ n ih=>
  intro gs a w sl t q h0 hL hP hG;rcases hG with eP|⟨eT,dL⟩
  ·exact⟨0,gs,a,w.drawn,sl,t,q,rfl,rfl,h0,eP w (hR w w.drawn),hL,hP⟩
  have key:∀d,∃a',ay P true a (w.at d)=.go a' (w.at d) #[]/\Goes P true R DC0 Stop n a' (w.at d):=λd=>by
   have:=dL (w.at d) (hR w d);cases hgo:ay P true a (w.at d)with
   |go a' w' es=>
    rw[hgo,goes_go]at this;obtain⟨⟨rfl,rfl⟩,hG'⟩:=this;exact⟨a',rfl,hG'⟩
   |_=>rw[hgo]at this;exact this.elim
  obtain⟨N,lq,a1,d,w1,gH,iX,t1,q1,hr,hgo,hz,pX,uM,uK,_⟩:=CZ (P:=P) (SB:=SB) (sl:=sl) h0 eT hL hP λd=>let⟨a',h1,_⟩:=key d;⟨a',_,_,h1,jd _,by simp⟩;obtain⟨a',h1,h2⟩:=key d;rw[hgo]at h1;cases h1;obtain⟨N',eZ,a',d',sl',t',q',gu,wU,qX,hS,qW,ou⟩:=ih lq _ (w.at d) iX t1 q1 pX uM uK h2;exact⟨N+N',eZ,a',d',sl',t',q',runNT_trans _ hr gu,wU.trans hz,qX,hS,qW,ou⟩
end
section
variable [Payload] {P:az} {ty:aM} {Wg C n:Nat} {SB:Blocks} {qy:Nat->Blocks->aN->ag->Prop} {K:aa->ag->Prop} {L0:Nat} {gs:Array aa} {w:ag} {sl:Option (Nat×Nat)} {q:Nat->Nat} {F O:Blocks} {a:aa} {t:aG}
theorem phase (ja:∀i F v w w1,qy i F v w->Ext F w w1->qy i F v w1) (hn:n<2147483648) (h0:gs[0]?=some a) (hL:bH P t gs q) (hP:yo SB w gs.size t) (jJ:∀x:Addr,x.block=Wg->nZ t (.cell x))
  (Fy:WG P true (Scr P ty Wg C n qy K n) F O a w) (fq:WgAt ty Wg w 0 0) (lG:cg C n w) (hF:∀b,F b->b<w.heap.size/\b≠Wg/\b≠C/\¬SB b) (hO:∀b,O b->F b)
  (lW:Wg<w.heap.size) (lC:C<w.heap.size) (lS:∀b,SB b->b<w.heap.size) (hCW:C≠Wg) (sW:¬SB Wg) (sC:¬SB C) (kW:L0<=Wg) (kC:L0<=C) (kO:∀b,O b->L0<=b):
  ∃N eZ a' w' sl' t' D FM q',runNT P N (crowd gs w sl) t=(.next (crowd eZ w' sl'),t')/\Joined P gs.size Wg C n SB qy K L0 w eZ a' w' t' D FM q':=by
 obtain⟨rk,Fy⟩:=Fy;have jC:0<gs.size:=(kg h0).1;obtain⟨B,Ea⟩:=hP.past
 let D:Nat->WX:=λ_=>⟨0,0,0,.leaf,λ_=>False,λ_=>False,.bool false⟩
 have kn:∀i x,touchAt t i=some x->¬ShP Wg SB x.loc->Knows t 0 i:=λi x hx hs=>by
  rcases Ea.known i x hx (hP.mem i x hx)with h|⟨⟨c,h1,h2⟩,_⟩
  ·exact h
  ·exact absurd ⟨c,h1,.inl h2⟩ hs
 have tr:wz gs.size Wg C SB 0 D w t:=by
  refine⟨⟨λi op x hi hx hs=>?_,λk k1 kj l ⟨i,hi,_⟩=>absurd hi (aw i),λk k1 kj l ⟨i,hi,_⟩=>absurd hi (aw i),λl hs _ i x hx e=>kn i x hx (e▸hs),λl hs _ i x hx e _=>kn i x hx (e▸hs),Ea.clean,λi op hi=>?_⟩,
   ⟨t.size,jd _,λi g hi hg=>?_,λi hi he=>?_⟩,λi g hg eG eB hc=>Ea.over i g hg eG hc,λi x hx=>?_,hP.mem,hP.seen⟩
  ·obtain⟨c,h1,h2|h2⟩:=hs
   ·exact hP.quiet i op x hi hx ⟨c,h1,h2⟩
   ·exact absurd h1 (jJ c h2 i x (by rw[touchAt_of hi];exact hx))
  ·have:=hP.gs op (bm hi);omega
  ·obtain⟨op,ho,rfl⟩:=au.1 hg;exact hP.gs op (bm ho)
  ·have:=lt_of_act? he;omega
  ·rcases Ea.known i x hx (hP.mem i x hx)with h|⟨⟨c,h1,h2⟩,h3⟩
   ·exact .inl h
   ·exact .inr (.inl ⟨⟨c,h1,.inl h2⟩,h3⟩)
 have jN:MS P ty Wg C n qy K (.wg n) 0 0 rk F O a w:=.wg (jd _) Fy;have dV:gW P ty gs.size Wg C n SB qy 0 gs w t D q 0:=⟨rfl,λi g hi _ hg=>hL.old i g hi hg,λi hi=>absurd hi (aw i),tr,Ea.hears,λi hi=>absurd hi (aw i),hL.above,λi hi=>absurd hi (aw i),λi hi=>absurd hi (aw i),lG,jC⟩
 have S:Sep Wg C SB 0 D F O w:=⟨λi hi=>absurd hi (aw i),λi hi=>absurd hi (aw i),λi _ hi=>absurd hi (aw i),λb hb=>let⟨h1,h2,h3,h4⟩:=hF b hb;⟨h1,h2,h3,h4,λi hi=>absurd hi (aw i)⟩,λb hb=>⟨hO b hb,λi hi=>absurd hi (aw i)⟩,lW,lC,lS,hCW,sW,sC⟩
 have hm:Mo 0 (xd D) (.wg n) 0 0:=by
  have:=Mo.opn (j:=0) (D:=xd D) (tag:=.wg n) trivial (λi hi=>absurd hi (aw i)) (by simp);simpa[Vc,sumTo,kR]using this
 have hj:JT n (.wg n) 0:=Nat.zero_add n;have hk:Kept Wg C L0 w 0 D O w:=⟨λ_ _=>rfl,kW,kC,λi hi=>absurd hi (aw i),kO,rfl,rfl,rfl,id⟩
 exact X3 (o:=gs.size) ja hn _ (crowd gs w sl) t ⟨gs,w,sl,0,D,q,.wg n,0,0,rk,F,O,a,0,0,rfl,h0,jN,dV,S,fq,hm,hj,hk,rfl⟩
end
end
section
abbrev link:Go.Conc.Lib.WgLink:={add:=68,done:=70,wait:=71,relMerge:=94,disable:=95,enable:=96,inBubble:=97,associate:=98,fatal:=99,uOr:=100,uAdd:=101,raceRead:=102,uLoad:=103,uStore:=104,disassociate:=105,semrelease:=106,acquire:=107,isAssociated:=108,uCas:=109,raceWrite:=110,semacquire:=111,orU64:=124,addU64:=125,loadU64:=126,storeU64:=127,casU64:=128,tWgP:=170,tUP:=172,tAssoc:=173,tWg:=143,tAU:=141,tU64:=139,tUint:=122,tU32:=120,tPU32:=177,tPAU:=201,tPU64:=203,tNoCopy:=136,tANoCopy:=137,tAlign64:=138}
theorem Gc:Go.Conc.Lib.WgLib prog link:=
 ⟨func68,func70,func71,func94,func95,func96,func97,func98,func99,func100,func101,func102,func103,func104,func105,func106,func107,func108,func109,func110,func111,func124,func125,func126,func127,func128,underlying170,Tryz.runUnderlying170,Tryz.sizeOf170,Tryz.isAgg170,Tryz.zeroValue170,underlying172,Tryz.runUnderlying172,Tryz.sizeOf172,Tryz.isAgg172,Tryz.zeroValue172,underlying173,Tryz.runUnderlying173,Tryz.sizeOf173,Tryz.isAgg173,Tryz.zeroValue173,underlying143,Tryz.runUnderlying143,Tryz.sizeOf143,Tryz.isAgg143,Tryz.zeroValue143,underlying141,Tryz.runUnderlying141,Tryz.sizeOf141,Tryz.isAgg141,Tryz.zeroValue141,underlying139,Tryz.runUnderlying139,Tryz.sizeOf139,Tryz.isAgg139,Tryz.zeroValue139,underlying122,Tryz.runUnderlying122,Tryz.sizeOf122,Tryz.isAgg122,Tryz.zeroValue122,underlying120,Tryz.runUnderlying120,Tryz.sizeOf120,Tryz.isAgg120,Tryz.zeroValue120,underlying177,Tryz.runUnderlying177,Tryz.sizeOf177,Tryz.isAgg177,Tryz.zeroValue177,underlying201,Tryz.runUnderlying201,Tryz.sizeOf201,Tryz.isAgg201,Tryz.zeroValue201,underlying203,Tryz.runUnderlying203,Tryz.sizeOf203,Tryz.isAgg203,Tryz.zeroValue203,underlying0,Tryz.runUnderlying0,Tryz.sizeOf0,Tryz.isAgg0,Tryz.zeroValue0,underlying3,Tryz.runUnderlying3,Tryz.sizeOf3,Tryz.isAgg3,Tryz.zeroValue3,underlying4,Tryz.runUnderlying4,Tryz.sizeOf4,Tryz.isAgg4,Tryz.zeroValue4,underlying9,Tryz.runUnderlying9,Tryz.sizeOf9,Tryz.isAgg9,Tryz.zeroValue9,underlying20,Tryz.runUnderlying20,Tryz.sizeOf20,Tryz.isAgg20,Tryz.zeroValue20,underlying21,Tryz.runUnderlying21,Tryz.sizeOf21,Tryz.isAgg21,Tryz.zeroValue21,(by kernel_rfl),(by kernel_rfl)⟩
end
end Ph
namespace Sim
open Go Go.Conc
def shf (τ:Tape) (δ:Nat×Nat) (w:ag):ag:={w with tape:=τ,drawn:=w.drawn-δ.1+δ.2}
def Fit (τ:Tape) (δ:Nat×Nat) (w:ag):Prop:=δ.1<=w.drawn/\∀i q,w.drawn<=i->τ (i-δ.1+δ.2) q=w.tape i q
def Cb {α:Type} (f:ag->ag):Result α->Result α|.ok a w=>.ok a (f w)|.halt h w=>.halt h (f w)
theorem q1r (P:az) (w:ag) (τ:Tape) (δ:Nat×Nat) (a:Addr) (u:aM) (k:Addr) (b:Bool):(shf τ δ w).seen P a u k b=w.seen P a u k b:=rfl
theorem ZI (P:az) (w:ag) (τ:Tape) (δ:Nat×Nat) (a:Addr) (b:Bool):(shf τ δ w).farLoad P a b=w.farLoad P a b:=rfl
theorem YB {A:Type} {τ:Tape} (fo:Except String A) (g g':A->Except String (ag×List Addr)) (h:∀c,∃h l,g c=.ok ({w with heap:=h},l)/\g' c=.ok (shf τ δ {w with heap:=h},l)):
  (∃e,(fo >>= g)=.error e/\(fo >>= g')=.error e)\/∃h l,(fo >>= g)=.ok ({w with heap:=h},l)/\(fo >>= g')=.ok (shf τ δ {w with heap:=h},l):=by
 cases fo with
 |error e=>exact .inl ⟨e,rfl,rfl⟩
 |ok c=>exact .inr (h c)
theorem Z8 (P:az) (w:ag) (τ:Tape) (δ:Nat×Nat) (a:Addr) (u:aM) (k:Addr) (v:aN) (b:Bool):
  (∃e,w.viewStore P a u k v b=.error e/\(shf τ δ w).viewStore P a u k v b=.error e)\/
  ∃h l,w.viewStore P a u k v b=.ok ({w with heap:=h},l)/\(shf τ δ w).viewStore P a u k v b=.ok (shf τ δ {w with heap:=h},l):=by
 unfold World.viewStore;rw[q1r];generalize w.seen P a u k b=r;generalize tight P P.depth u=t;cases t with
 |false=>exact .inl ⟨_,rfl,rfl⟩
 |true=>
  cases r with
  |error e=>exact .inl ⟨_,rfl,rfl⟩
  |ok r=>
   obtain⟨c,e,frozen,first,like,cells⟩:=r;generalize v.bytes?=vb;cases vb with
   |none=>exact .inl ⟨_,rfl,rfl⟩
   |some bs=>
    dsimp only;by_cases hb:some bs.length≠like.bytes?.map (·.length)
    ·left;refine⟨_,if_pos hb,?_⟩;exact if_pos hb
    ·rcases YB (cells.foldlM (init:=c) _) (λc=>pure ({w with heap:=w.heap.setIfInBounds a.block (.cells c e frozen)},cells.map λ(i,_,_)=>{block:=a.block,off:=i}))
      (λc=>pure ({shf τ δ w with heap:=w.heap.setIfInBounds a.block (.cells c e frozen)},cells.map λ(i,_,_)=>{block:=a.block,off:=i})) (w:=w) (τ:=τ) (δ:=δ) (λc=>⟨_,_,rfl,rfl⟩)with⟨e1,h1,h2⟩|⟨h,l,h1,h2⟩
     ·exact .inl ⟨e1,(if_neg hb).trans h1,(if_neg hb).trans h2⟩
     ·exact .inr ⟨h,l,(if_neg hb).trans h1,(if_neg hb).trans h2⟩
theorem Z6 (P:az) (w:ag) (τ:Tape) (δ:Nat×Nat) (a:Addr) (v:aN) (b:Bool):
  (∃e,w.farStore P a v b=.error e/\(shf τ δ w).farStore P a v b=.error e)\/
  ∃h l,w.farStore P a v b=.ok ({w with heap:=h},l)/\(shf τ δ w).farStore P a v b=.ok (shf τ δ {w with heap:=h},l):=by
 unfold World.farStore;have hh:(shf τ δ w).heap[a.block]?=w.heap[a.block]?:=rfl;have fI:(shf τ δ w).noCell a "store: no such cell" =w.noCell a "store: no such cell" :=rfl;rw[hh,fI];cases ho:w.heap[a.block]? with
 |none=>exact .inl ⟨_,rfl,rfl⟩
 |some o=>
  cases o with
  |view at_ u=>
   dsimp only;rcases Z8 P w τ δ at_ u a v b with⟨e,e1,e2⟩|⟨h,l,e1,e2⟩
   ·exact .inl ⟨.unsupported (.unsafePointer e),by rw[e1],by rw[e2]⟩
   ·exact .inr ⟨h,l,by rw[e1],by rw[e2]⟩
  |_=>exact .inl ⟨_,rfl,rfl⟩
theorem ZC {α:Type} (P:az) (m:Mode) (a:Addr) (v:aN) (k:Sem α) {τ:Tape} (ih:∀(w:ag) (es:Array bq),Fit τ δ w->
  k.runT P (shf τ δ w) es=(Cb (shf τ δ) (k.runT P w es).1,(k.runT P w es).2)/\Fit τ δ (rw0 (k.runT P w es).1)) (w:ag) (es:Array bq) (hw:Fit τ δ w):
  storeT P m a v k (shf τ δ w) es=(Cb (shf τ δ) (storeT P m a v k w es).1,(storeT P m a v k w es).2)/\Fit τ δ (rw0 (storeT P m a v k w es).1):=by
 unfold storeT;have hc:(shf τ δ w).cell? a=w.cell? a:=rfl;have hf:(shf τ δ w).frozen? a=w.frozen? a:=rfl;simp only[hc,hf];cases hq:w.cell? a with
 |some v0=>
  dsimp only;cases I8:w.frozen? a with
  |true=>exact⟨rfl,hw⟩
  |false=>exact ih (w.setCell a v) _ hw
 |none=>
  dsimp only;rcases Z6 P w τ δ a v (m== .atomic)with⟨e,e1,e2⟩|⟨h,l,e1,e2⟩
  ·simp only[e1,e2];exact⟨rfl,hw⟩
  ·simp only[e1,e2];exact ih {w with heap:=h} _ hw
theorem YN {α:Type} {τ:Tape}:∀(a:Ask α) (w:ag),Fit τ δ w->(shf τ δ w).ask a=((w.ask a).1,shf τ δ (w.ask a).2)/\Fit τ δ (w.ask a).2:=by
 intro a;induction a with
 |done a=>intro w h;exact⟨rfl,h⟩
 |ask what range k ih=>
  intro w h;unfold World.ask;dsimp only;have e:∀q,(shf τ δ w).tape (shf τ δ w).drawn q=w.tape w.drawn q:=λq=>h.2 w.drawn q (jd _);split
  ·rename_i hf;exact ih 0 w h
  ·rename_i hf;rw[e];have e2:({shf τ δ w with drawn:=(shf τ δ w).drawn+1}:ag)=shf τ δ {w with drawn:=w.drawn+1}:=by
    have:=h.1;unfold shf;simp only[World.mk.injEq,true_and,and_true];omega
   rw[e2];exact ih _ {w with drawn:=w.drawn+1} ⟨cr h.1,λi q hi=>h.2 i q (bK hi)⟩
theorem XE {τ:Tape} (c:Sys) (w:ag) (h:Fit τ δ w):(shf τ δ w).sys c=((w.sys c).1,shf τ δ (w.sys c).2)/\Fit τ δ (w.sys c).2:=by
 unfold World.sys;have e:bM c (shf τ δ w).os=bM c w.os:=rfl;rw[e];obtain⟨h1,h2⟩:=YN (bM c w.os) w h;rw[h1];generalize w.ask (bM c w.os)=r at*;obtain⟨⟨a,os⟩,w1⟩:=r;cases a<;>first|exact⟨rfl,h⟩|exact⟨rfl,h2⟩
theorem XP {α:Type} (P:az) {τ:Tape}:∀(s:Sem α) (w:ag) (es:Array bq),Fit τ δ w->
  s.runT P (shf τ δ w) es=(Cb (shf τ δ) (s.runT P w es).1,(s.runT P w es).2)/\Fit τ δ (rw0 (s.runT P w es).1):=by
 intro s;induction s with
 |pure a=>intro w es h;exact⟨rfl,h⟩
 |halt x=>intro w es h;exact⟨rfl,h⟩
 |load m a k ih=>
  intro w es h;unfold ce;have nT:(shf τ δ w).cell? a=w.cell? a:=rfl;simp only[nT,ZI];cases hc:w.cell? a with
  |some v=>exact ih v w _ h
  |none=>
   dsimp only;cases hf:w.farLoad P a (m== .atomic)with
   |error x=>exact⟨rfl,h⟩
   |ok r=>exact ih r.1 w _ h
 |store m a v k ih=>cases v<;>first|(intro w es h;exact⟨rfl,h⟩)|exact ZC P m a _ k ih
 |new o k ih=>intro w es h;exact ih _ {w with heap:=w.heap.push o} es h
 |shape r k ih=>intro w es h;exact ih _ w es h
 |freeze a n k ih=>
  intro w es h;have e:(shf τ δ w).freeze a n=shf τ δ (w.freeze a n):=by unfold World.freeze;simp only[shf];split<;>rfl
  have e1:(w.freeze a n).drawn=w.drawn:=by unfold World.freeze;split<;>rfl
  have e2:(w.freeze a n).tape=w.tape:=by unfold World.freeze;split<;>rfl
  have h':=ih (w.freeze a n) es ⟨by rw[e1];exact h.1,λi q hi=>by rw[e2];exact h.2 i q (by rw[e1]at hi;exact hi)⟩;unfold ce;rw[e];exact h'
 |frozen a k ih=>intro w es h;exact ih _ w es h
 |getObj r k ih=>
  intro w es h;unfold ce;have hc:(shf τ δ w).heap[r]?=w.heap[r]?:=rfl;simp only[hc];cases ho:w.heap[r]? with
  |none=>exact⟨rfl,h⟩
  |some o=>cases o<;>first|exact⟨rfl,h⟩|exact ih _ w _ h
 |setObj r o k ih=>
  intro w es h;unfold ce;have hc:(shf τ δ w).heap[r]?=w.heap[r]?:=rfl;simp only[hc];cases ho:w.heap[r]? with
  |none=>exact⟨rfl,h⟩
  |some o'=>cases o'<;>first|exact⟨rfl,h⟩|exact ih {w with heap:=w.heap.setIfInBounds r o} _ h
 |choose q k ih=>
  intro w es h;unfold ce;by_cases hf:q.forced=true
  ·simp only[hf,if_true];exact ih 0 w es h
  ·simp only[hf,aK,if_false];have e:(shf τ δ w).tape (shf τ δ w).drawn q=w.tape w.drawn q:=h.2 w.drawn _ (jd _);rw[e];have e2:({shf τ δ w with drawn:=(shf τ δ w).drawn+1}:ag)=shf τ δ {w with drawn:=w.drawn+1}:=by
    have:=h.1;unfold shf;simp only[World.mk.injEq,true_and,and_true];omega
   rw[e2];exact ih _ {w with drawn:=w.drawn+1} es ⟨cr h.1,λi q hi=>h.2 i q (bK hi)⟩
 |sys c k ih=>
  intro w es h;unfold ce;obtain⟨h1,h2⟩:=XE c w h;rw[h1];exact ih _ _ _ h2
 |program k ih=>intro w es h;exact ih P w es h
 |mark m k ih=>intro w es h;exact ih w _ h
theorem shr {α:Type} {P:az} {s:Sem α} {r:Result α} {gH:Array bq} (hr:s.runT P w es=(r,gH)) {τ:Tape} (h:Fit τ δ w):s.runT P (shf τ δ w) es=(Cb (shf τ δ) r,gH)/\Fit τ δ (rw0 r):=by
 have:=XP P s w es h;rw[hr]at this;exact this
def ShS (f:ag->cn) (w:ag):Prop:= ∀g1 w1 es,f w=.go g1 w1 es->∀τ δ,Fit τ δ w->f (shf τ δ w)=.go g1 (shf τ δ w1) es/\Fit τ δ w1
theorem ShS.go:ShS (λw=>.go g w es) w:=by
 intro g1 w1 es h;cases h;exact λτ δ h=>⟨rfl,h⟩
theorem ShS.ended {f:ag->cn} {o:Outcome} {w2:ag} (h:f w=.ended o w2 es):ShS f w:=λg1 w1 es e=>by rw[h]at e;cases e
section
variable {X:Cx} {Fb:bd->Bool} {wr:Bool} {sp:bd->Bool} {ρ:Rel}
theorem Ky (hw:WR X ρ w w') (hm:fr.mode=.run) (hk:fr.kind=.normal)
  {s s':Sem Next} (hs:SS X ρ s s' (λρ1 n n'=>NR X ρ1 n n')):ShS (λw=>aQ X.P true fr cs none s w) w:=by
 have e1:(fr.kind==bN)=false:=by rw[hk];rfl
 have raised:∀vs,fr.raise vs={fr with mode:=.panicking vs}:=λvs=>by unfold cz;rw[hm]
 intro g1 w1 es hgo;rcases hr:s.runT X.P w #[]with⟨r,gm⟩
 unfold aQ at hgo⊢;simp only[if_true]at hgo⊢;rw[hr]at hgo;cases r with
 |halt h wx=>
  have gu:s.run X.P w=.halt h wx:=by rw[<-bj X.P s w #[],hr]
  obtain⟨o5,-⟩:=hs.2 w w' h wx hw gu;cases h with
  |panic v=>
   simp only[aR]at hgo;cases hgo;refine λτ δ hτ=>?_;obtain⟨d3,d4⟩:=shr hr hτ;refine⟨?_,d4⟩;rw[d3];rfl
  |unsupported u=>
   cases u with
   |initOrder b=>exact o5.elim
   |_=>simp only[aR]at hgo;cases hgo
  |stuck m=>simp only[aR]at hgo;cases hgo
  |_=>exact o5.elim
 |ok n wx=>
  have gu:s.run X.P w=.ok n wx:=by rw[<-bj X.P s w #[],hr]
  obtain⟨ρ1,n',gB,gH,h1,h2,h3,h4,h5,h6,h7⟩:=hs.1 w w' n wx #[] hw gu;cases h6<;>
  ·simp only[aR]at hgo;cases hgo;refine λτ δ hτ=>?_;obtain⟨d3,d4⟩:=shr hr hτ;refine⟨?_,d4⟩;rw[d3];rfl
theorem KG (hw:WR X ρ w w') (pG:oM ρ fr.roundOf eH.roundOf) (hk:fr.kind=.normal) (jump:Option Code) (hj:∀c,jump=some c->X.C c) (m:Bool) (eG:fr.roundOf.isSome->cs≠[]):
  ShS (λw=>rM X.P m fr cs jump w) w:=by
 rcases pG with⟨e1,e2⟩|⟨l,l',e1,e2,hl⟩
 ·unfold rM;rw[e1];dsimp only;cases jump with
  |none=>exact ShS.go
  |some c=>cases c<;>first|exact ShS.go|exact ShS.ended rfl
 ·intro g1 w1 es hgo;unfold rM at hgo⊢;rw[e1]at hgo⊢;dsimp only at hgo⊢;rcases hr:(cf l jump).runT X.P w #[]with⟨r,gm⟩
  rw[hr]at hgo;cases r with
  |halt h wx=>cases hgo
  |ok v wx=>
   cases cs with
   |nil=>exact absurd rfl (eG (by rw[e1];rfl))
   |cons c cs=>
    unfold doReturn at hgo;simp only[hk,aR]at hgo;cases hgo;refine λτ δ hτ=>?_;obtain⟨d3,d4⟩:=shr hr hτ;refine⟨?_,d4⟩;rw[d3];simp only[Cb,doReturn,hk,aR]
theorem Qx (S:X.Set Fb wr sp) (hf:FR X Fb wr ρ fr eH) (hw:WR X ρ w w') (hm:fr.mode=.run) (m:Bool) (eG:fr.roundOf.isSome->cs≠[]):
  ShS (λw=>aq X.P m true fr cs none w) w:=by
 obtain⟨fn,tmps,todo,defers,mode,kind,ro⟩:=fr;obtain⟨fn',kQ,todo',defers',oP,kind',kN⟩:=eH;have ht:IsR X Fb wr ρ todo todo':=hf.todo;obtain rfl:fn'=fn:=hf.fn;have hk:kind=.normal:=hf.kind;have gN:∀c,codeOk X.P X.P' Fb wr c=true->X.C c:=λc h=>(S.c c).2 h;unfold aq;cases ht with
 |nil=>exact KG hw hf.round hk none (λc e=>by cases e) m eG
 | @cons i i' l l' a b=>
  cases a with
  |inBlock id=>exact ShS.go
  |inLoop c=>exact ShS.go
  |inRangeFunc r=>exact ShS.ended rfl
  |beginRound=>
   refine Ky (fr:=⟨fn',tmps,_,defers,mode,kind,ro⟩) (s':=do(kN.elim (Go.stuck "beginRound: no round") bC:Sem Unit);Pure.pure .skip) hw hm hk ?_;have pG:oM ρ ro kN:=hf.round;rcases pG with⟨rfl,rfl⟩|⟨l,l',rfl,rfl,hl⟩
   ·exact SS.dies (qx.jG (qx.stuck _))
   ·exact(SS.beginRound hl).bind λ_ _ _ _ _=>SS.pure .skip
  | @endRangeFunc l l' r=>
   intro g1 w1 es hgo;dsimp only at hgo⊢;rcases hr:(bR l).runT X.P w #[]with⟨r0,gm⟩
   rw[hr]at hgo;cases r0 with
   |halt h wx=>
    cases h with
    |panic v=>
     cases hgo;refine λτ δ hτ=>?_;obtain⟨d3,d4⟩:=shr hr hτ;refine⟨?_,d4⟩;rw[d3];rfl
    |_=>cases hgo
   |ok j wx=>
    cases hgo;refine λτ δ hτ=>?_;obtain⟨d3,d4⟩:=shr hr hτ;refine⟨?_,d4⟩;rw[d3];rfl
  | @inRegion ops td c=>
   cases td with
   |nil=>exact ShS.go
   |cons i td=>
    dsimp only;by_cases dX:((ops[i]?).map (aS · (bQ ops tmps))).getD false=true
    ·simp only[if_pos dX];cases ho:ops[i]? with
     |none=>rw[ho]at dX;cases dX
     |some o=>
      have fJ:=Av c ho;have nd:∀c,o.op≠.defer c:=λc e=>by
       unfold l9 at fJ;rw[e]at fJ;simp at fJ
      have um:(⟨fn',tmps,.inRegion ops (i::td)::l,defers,mode,kind,ro⟩:ao).oper?=some o:=ho;have e:(λw=>bg X.P true (⟨fn',tmps,.inRegion ops (i::td)::l,defers,mode,kind,ro⟩:ao) cs none w)=
        λw=>aQ X.P true (⟨fn',tmps,.inRegion ops (i::td)::l,defers,mode,kind,ro⟩:ao) cs none (co (bD (⟨fn',tmps,.inRegion ops (i::td)::l,defers,mode,kind,ro⟩:ao)) o) w:=by
       funext w;unfold bg;rw[um];dsimp only;split
       ·rename_i e;exact absurd e (nd _)
       ·rfl
      rw[e];exact Ky hw hm hk (SS.execOp S.ok wr S.wrs o fJ _ _ (hf.eval S))
    ·simp only[if_neg dX];exact ShS.go
  | @code c hc=>
   cases c with
   |skip=>exact ShS.go
   |ret=>exact KG (fr:=⟨fn',tmps,_,defers,mode,kind,ro⟩) hw hf.round hk (some .ret) (λc e=>by cases e;exact gN _ rfl) m eG
   |seq x y=>exact ShS.go
   |cond x y z=>
    dsimp only;generalize bD _ x=v;cases v<;>first|exact ShS.go|exact ShS.ended rfl
   |block id c=>exact ShS.go
   |loop c=>exact ShS.go
   |exit id=>
    dsimp only;cases aO id l with
    |none=>exact KG (fr:=⟨fn',tmps,_,defers,mode,kind,ro⟩) hw hf.round hk (some (.exit id)) (λc e=>by cases e;exact gN _ rfl) m eG
    |some k=>exact ShS.go
   |region id ops draw=>
    cases draw with
    |false=>exact ShS.go
    |true=>
     intro g1 w1 es hgo;dsimp only at hgo⊢;simp only[bT,aK,if_false]at hgo⊢;rcases hr:(choose (.order fn' id)).runT X.P w #[]with⟨r0,gm⟩
     have gu:(choose (.order fn' id)).run X.P w=r0:=by rw[<-bj X.P _ w #[],hr]
     rw[gu]at hgo;cases r0 with
     |halt h wx=>cases hgo
     |ok t wx=>
      cases hgo;refine λτ δ hτ=>?_;obtain⟨d3,d4⟩:=shr hr hτ;refine⟨?_,d4⟩;have:(choose (.order fn' id)).run X.P (shf τ δ w)=.ok t (shf τ δ w1):=by rw[<-bj X.P _ _ #[],d3];rfl
      rw[this]
   |rangeFunc f params assign body=>
    simp only[codeOk,bE]at hc;obtain⟨jA,lm,uI⟩:=hc;have hG:X.G fn':=hf.same;intro g1 w1 es hgo;dsimp only at hgo⊢;rcases hr:(bI fn' tmps params assign body ro).runT X.P w #[]with⟨r0,gm⟩
    have vQ:=SS.enterLoop hG hf.tmps params (gN _ lm) (gN _ uI) hf.round;rw[hr]at hgo;cases r0 with
    |halt h wx=>cases hgo
    |ok p wx=>
     obtain⟨l1,mark⟩:=p;obtain⟨ρ1,p',gB,gH,h1,h2,h3,h4,h5,⟨h6,nV⟩,h7⟩:=sM vQ hw hr;obtain⟨vJ,iP⟩:=p';dsimp only at h6 nV hgo;have fK:=hf.mono h3.le;have tu:FR X Fb wr ρ1 ⟨fn',tmps,.inRangeFunc l1::l,mark++defers,mode,kind,ro⟩ ⟨fn',kQ,.inRangeFunc vJ::l',iP++defers',oP,kind',kN⟩:=
      ⟨fK.fn,fK.same,fK.tmps,.cons (.inRangeFunc h6) (b.mono h3.le),nV.append fK.defers,fK.mode,fK.run,fK.kind,fK.kind',fK.round⟩
     have ap:=Ky (cs:=cs) (fr:=⟨fn',tmps,.inRangeFunc l1::l,mark++defers,mode,kind,ro⟩) h2 hm hk (SS.iterate S.ok (λ_=>rfl) (λ_=>rfl) ((tu.eval S).1 f jA) h6);obtain⟨oz,k1,k2⟩:=Hr hgo;refine λτ δ hτ=>?_;obtain⟨d3,d4⟩:=shr hr hτ;obtain⟨q3,q4⟩:=ap g1 w1 oz k1 τ δ d4;refine⟨?_,q4⟩;rw[d3];dsimp only[Cb];have k3:es=seen X.P fn' gm++oz:=by cases k2;rfl
     rw[k3];exact congrArg (aR _) q3
   |_=>simp[codeOk]at hc
theorem Ry (S:X.Set Fb wr sp) (hf:FR X Fb wr ρ fr eH) (hw:WR X ρ w w') (hm:fr.mode=.returning) (m:Bool) (eG:fr.defers≠[]\/cs≠[]):
  ShS (λw=>unwind X.P m fr cs none w) w:=by
 obtain⟨fn,tmps,todo,defers,mode,kind,ro⟩:=fr;obtain⟨fn',kQ,todo',defers',oP,kind',kN⟩:=eH;obtain rfl:fn'=fn:=hf.fn;obtain rfl:mode=.returning:=hm;obtain rfl:kind=.normal:=hf.kind;have hd:DsR ρ defers defers':=hf.defers;intro g1 w1 es hgo;cases hd with
 | @cons r r' l l' a b=>
  unfold unwind at hgo⊢;dsimp only at hgo⊢;rcases hr:(bO r).runT X.P w #[]with⟨r0,gm⟩
  rw[hr]at hgo;cases r0 with
  |halt h wx=>cases hgo
  |ok v wx=>
   cases hgo;refine λτ δ hτ=>?_;obtain⟨d3,d4⟩:=shr hr hτ;refine⟨?_,d4⟩;rw[d3];rfl
 |nil=>
  have eG:cs≠[]:=eG.resolve_left (λh=>h rfl);obtain⟨f,q1,q2⟩:=hf.same;have q1:X.P.funcs[fn']?=some f:=q1;unfold unwind at hgo⊢;dsimp only at hgo⊢;rw[q1]at hgo⊢;dsimp only at hgo⊢;rcases hr:(results f tmps).runT X.P w #[]with⟨r0,gm⟩
  rw[hr]at hgo;cases r0 with
  |halt h wx=>cases h<;>cases hgo
  |ok v wx=>
   cases cs with
   |nil=>exact absurd rfl eG
   |cons c cs=>
    cases hgo;refine λτ δ hτ=>?_;obtain⟨d3,d4⟩:=shr hr hτ;refine⟨?_,d4⟩;rw[d3];rfl
theorem q6x (S:X.Set Fb wr sp) (hf:FR X Fb wr ρ fr eH) (hw:WR X ρ w w') (m:Bool) (eG:cs≠[]):
  ShS (λw=>ay X.P m (G fr cs) w) w:=by
 rcases hf.run with hm|hm
 ·have e:(λw=>ay X.P m (G fr cs) w)=λw=>aq X.P m true fr cs none w:=funext λw=>yx _ _ _ _ _ hm;rw[e];exact Qx S hf hw hm m (λ_=>eG)
 ·have e:(λw=>ay X.P m (G fr cs) w)=λw=>unwind X.P m fr cs none w:=funext λw=>zx _ _ _ _ _ hm;rw[e];exact Ry S hf hw hm m (.inr eG)
end
def y7 (f:List ao->cn):Prop:=(∃jo up1 w1 es,∀base,f base=.go (G jo (up1++base)) w1 es)\/∀base g1 w1 es,f base≠.go g1 w1 es
theorem y7.go {f:List ao->cn} (fr:ao) (up:List ao) (w:ag) (es:Array bq) (h:∀base,f base=.go (G fr (up++base)) w es):y7 f:=.inl ⟨fr,up,w,es,h⟩
theorem y7.ended {f:List ao->cn} (h:∀base,∃o w es,f base=.ended o w es):y7 f:=.inr λbase g1 w1 es e=>by
 obtain⟨o,w,gY,h⟩:=h base;rw[h]at e;cases e
theorem y7.after {f:List ao->cn} {gm:Array bq} (h:y7 f):y7 (λbase=>aR gm (f base)):=by
 rcases h with⟨jo,up1,w1,es,h⟩|h
 ·exact .inl ⟨jo,up1,w1,gm++es,λbase=>by show aR gm (f base)=_;rw[h base];rfl⟩
 ·refine .inr λbase g1 w1 es e=>?_;obtain⟨oz,k1,_⟩:=Hr e;exact h base g1 w1 oz k1
section
variable {X:Cx} {Fb:bd->Bool} {wr:Bool} {sp:bd->Bool} {ρ:Rel}
theorem CV (hw:WR X ρ w w') (hm:fr.mode=.run) (hk:fr.kind=.normal)
  {s s':Sem Next} (hs:SS X ρ s s' (λρ1 n n'=>NR X ρ1 n n')):y7 (λbase=>aQ X.P true fr (up++base) none s w):=by
 have e1:(fr.kind==bN)=false:=by rw[hk];rfl
 rcases hr:s.runT X.P w #[]with⟨r,gm⟩
 unfold aQ;simp only[if_true,hr,e1,aK,if_false];cases r with
 |halt h wx=>
  have gu:s.run X.P w=.halt h wx:=by rw[<-bj X.P s w #[],hr]
  obtain⟨o5,-⟩:=hs.2 w w' h wx hw gu;cases h with
  |panic v=>exact y7.after (y7.go (fr.raise [{v,recovered:=false}]) up wx #[] λ_=>rfl)
  |unsupported u=>
   cases u with
   |initOrder b=>exact o5.elim
   |_=>exact y7.after (y7.ended λ_=>⟨_,_,_,rfl⟩)
  |stuck m=>exact y7.after (y7.ended λ_=>⟨_,_,_,rfl⟩)
  |_=>exact o5.elim
 |ok n wx=>
  have gu:s.run X.P w=.ok n wx:=by rw[<-bj X.P s w #[],hr]
  obtain⟨ρ1,n',gB,gH,h1,h2,h3,h4,h5,h6,h7⟩:=hs.1 w w' n wx #[] hw gu;cases h6 with
  |value h=>exact y7.after (y7.go (fr.finish _) up wx #[] λ_=>rfl)
  |skip=>exact y7.after (y7.go (fr.finish ae) up wx #[] λ_=>rfl)
  |enter _ _=>exact y7.after (y7.go _ (fr::up) wx #[] λ_=>rfl)
  |round _ _ _ _ _=>exact y7.after (y7.go _ (fr::up) wx #[] λ_=>rfl)
theorem GR (hk:fr.kind=.normal) (jump:Option Code) (m:Bool) (eG:fr.roundOf.isSome->up≠[]):
  y7 (λbase=>rM X.P m fr (up++base) jump w):=by
 obtain⟨fn,tmps,todo,defers,mode,kind,ro⟩:=fr;obtain rfl:kind=.normal:=hk;unfold rM;cases ro with
 |none=>
  dsimp only;cases jump with
  |none=>exact y7.go ⟨fn,tmps,todo,defers,.returning,.normal,none⟩ up w #[] λ_=>rfl
  |some c=>cases c<;>first|exact y7.go ⟨fn,tmps,todo,defers,.returning,.normal,none⟩ up w #[] (λ_=>rfl)|exact y7.ended λ_=>⟨_,_,_,rfl⟩
 |some l=>
  dsimp only;rcases hr:(cf l jump).runT X.P w #[]with⟨r,gm⟩
  cases r with
  |halt h wx=>exact y7.after (y7.ended λ_=>⟨_,_,_,rfl⟩)
  |ok v wx=>
   cases up with
   |nil=>exact absurd rfl (eG rfl)
   |cons c up=>exact y7.after (y7.go (c.finish v) up wx #[] λ_=>rfl)
theorem Qy (S:X.Set Fb wr sp) (hf:FR X Fb wr ρ fr eH) (hw:WR X ρ w w') (hm:fr.mode=.run) (m:Bool) (eG:fr.roundOf.isSome->up≠[]):
  y7 (λbase=>aq X.P m true fr (up++base) none w):=by
 obtain⟨fn,tmps,todo,defers,mode,kind,ro⟩:=fr;obtain⟨fn',kQ,todo',defers',oP,kind',kN⟩:=eH;have ht:IsR X Fb wr ρ todo todo':=hf.todo;obtain rfl:fn'=fn:=hf.fn;have hk:kind=.normal:=hf.kind;have gN:∀c,codeOk X.P X.P' Fb wr c=true->X.C c:=λc h=>(S.c c).2 h;unfold aq;cases ht with
 |nil=>exact GR hk none m eG
 | @cons i i' l l' a b=>
  cases a with
  |inBlock id=>exact y7.go _ up w #[] λ_=>rfl
  |inLoop c=>exact y7.go _ up w #[] λ_=>rfl
  |inRangeFunc r=>exact y7.ended λ_=>⟨_,_,_,rfl⟩
  |beginRound=>
   refine CV (fr:=⟨fn',tmps,_,defers,mode,kind,ro⟩) (s':=do(kN.elim (Go.stuck "beginRound: no round") bC:Sem Unit);Pure.pure .skip) hw hm hk ?_;have pG:oM ρ ro kN:=hf.round;rcases pG with⟨rfl,rfl⟩|⟨l,l',rfl,rfl,hl⟩
   ·exact SS.dies (qx.jG (qx.stuck _))
   ·exact(SS.beginRound hl).bind λ_ _ _ _ _=>SS.pure .skip
  | @endRangeFunc l l' r=>
   dsimp only;rcases hr:(bR l).runT X.P w #[]with⟨r0,gm⟩
   cases r0 with
   |halt h wx=>
    cases h with
    |panic v=>exact y7.after (y7.go _ up wx #[] λ_=>rfl)
    |_=>exact y7.after (y7.ended λ_=>⟨_,_,_,rfl⟩)
   |ok j wx=>exact y7.after (y7.go _ up wx #[] λ_=>rfl)
  | @inRegion ops td c=>
   cases td with
   |nil=>exact y7.go _ up w #[] λ_=>rfl
   |cons i td=>
    dsimp only;by_cases dX:((ops[i]?).map (aS · (bQ ops tmps))).getD false=true
    ·simp only[if_pos dX];cases ho:ops[i]? with
     |none=>rw[ho]at dX;cases dX
     |some o=>
      have fJ:=Av c ho;have nd:∀c,o.op≠.defer c:=λc e=>by
       unfold l9 at fJ;rw[e]at fJ;simp at fJ
      have um:(⟨fn',tmps,.inRegion ops (i::td)::l,defers,mode,kind,ro⟩:ao).oper?=some o:=ho;have e:(λbase=>bg X.P true (⟨fn',tmps,.inRegion ops (i::td)::l,defers,mode,kind,ro⟩:ao) (up++base) none w)=
        λbase=>aQ X.P true (⟨fn',tmps,.inRegion ops (i::td)::l,defers,mode,kind,ro⟩:ao) (up++base) none (co (bD (⟨fn',tmps,.inRegion ops (i::td)::l,defers,mode,kind,ro⟩:ao)) o) w:=by
       funext base;unfold bg;rw[um];dsimp only;split
       ·rename_i e;exact absurd e (nd _)
       ·rfl
      rw[e];exact CV hw hm hk (SS.execOp S.ok wr S.wrs o fJ _ _ (hf.eval S))
    ·simp only[if_neg dX];exact y7.go _ up w #[] λ_=>rfl
  | @code c hc=>
   cases c with
   |skip=>exact y7.go _ up w #[] λ_=>rfl
   |ret=>exact GR (fr:=⟨fn',tmps,_,defers,mode,kind,ro⟩) hk (some .ret) m eG
   |seq x y=>exact y7.go _ up w #[] λ_=>rfl
   |cond x y z=>
    dsimp only;generalize bD _ x=v;cases v<;>first|exact y7.go _ up w #[] (λ_=>rfl)|exact y7.ended λ_=>⟨_,_,_,rfl⟩
   |block id c=>exact y7.go _ up w #[] λ_=>rfl
   |loop c=>exact y7.go _ up w #[] λ_=>rfl
   |exit id=>
    dsimp only;cases aO id l with
    |none=>exact GR (fr:=⟨fn',tmps,_,defers,mode,kind,ro⟩) hk (some (.exit id)) m eG
    |some k=>exact y7.go _ up w #[] λ_=>rfl
   |region id ops draw=>
    cases draw with
    |false=>exact y7.go _ up w #[] λ_=>rfl
    |true=>
     dsimp only;simp only[bT,aK,if_false];rcases hr:(choose (.order fn' id)).run X.P w with⟨t,wx⟩|⟨h,wx⟩
     ·exact y7.go _ up wx #[] λ_=>rfl
     ·exact y7.ended λ_=>⟨_,_,_,rfl⟩
   |rangeFunc f params assign body=>
    simp only[codeOk,bE]at hc;obtain⟨jA,lm,uI⟩:=hc;have hG:X.G fn':=hf.same;dsimp only;rcases hr:(bI fn' tmps params assign body ro).runT X.P w #[]with⟨r0,gm⟩
    have vQ:=SS.enterLoop hG hf.tmps params (gN _ lm) (gN _ uI) hf.round;cases r0 with
    |halt h wx=>exact y7.after (y7.ended λ_=>⟨_,_,_,rfl⟩)
    |ok p wx=>
     obtain⟨l1,mark⟩:=p;obtain⟨ρ1,p',gB,gH,h1,h2,h3,h4,h5,⟨h6,nV⟩,h7⟩:=sM vQ hw hr;obtain⟨vJ,iP⟩:=p';dsimp only at h6 nV;have fK:=hf.mono h3.le;have tu:FR X Fb wr ρ1 ⟨fn',tmps,.inRangeFunc l1::l,mark++defers,mode,kind,ro⟩ ⟨fn',kQ,.inRangeFunc vJ::l',iP++defers',oP,kind',kN⟩:=
      ⟨fK.fn,fK.same,fK.tmps,.cons (.inRangeFunc h6) (b.mono h3.le),nV.append fK.defers,fK.mode,fK.run,fK.kind,fK.kind',fK.round⟩
     exact y7.after (CV (up:=up) (fr:=⟨fn',tmps,.inRangeFunc l1::l,mark++defers,mode,kind,ro⟩) h2 hm hk (SS.iterate S.ok (λ_=>rfl) (λ_=>rfl) ((tu.eval S).1 f jA) h6))
   |_=>simp[codeOk]at hc
theorem La (S:X.Set Fb wr sp) (hf:FR X Fb wr ρ fr eH) (hm:fr.mode=.returning) (m:Bool) (eG:fr.defers≠[]\/up≠[]):
  y7 (λbase=>unwind X.P m fr (up++base) none w):=by
 obtain⟨fn,tmps,todo,defers,mode,kind,ro⟩:=fr;obtain⟨fn',kQ,todo',defers',oP,kind',kN⟩:=eH;obtain rfl:fn'=fn:=hf.fn;obtain rfl:mode=.returning:=hm;obtain rfl:kind=.normal:=hf.kind;have hd:DsR ρ defers defers':=hf.defers;cases hd with
 | @cons r r' l l' a b=>
  unfold unwind;dsimp only;rcases hr:(bO r).runT X.P w #[]with⟨r0,gm⟩
  cases r0 with
  |halt h wx=>exact y7.after (y7.ended λ_=>⟨_,_,_,rfl⟩)
  |ok v wx=>exact y7.after (y7.go _ up wx #[] λ_=>rfl)
 |nil=>
  have eG:up≠[]:=eG.resolve_left (λh=>h rfl);obtain⟨f,q1,q2⟩:=hf.same;have q1:X.P.funcs[fn']?=some f:=q1;unfold unwind;dsimp only;rw[q1];dsimp only;rcases hr:(results f tmps).runT X.P w #[]with⟨r0,gm⟩
  cases r0 with
  |halt h wx=>cases h<;>exact y7.after (y7.ended λ_=>⟨_,_,_,rfl⟩)
  |ok v wx=>
   cases up with
   |nil=>exact absurd rfl eG
   |cons c up=>exact y7.after (y7.go (c.finish v) up wx #[] λ_=>rfl)
theorem Qk (S:X.Set Fb wr sp) (hf:FR X Fb wr ρ fr eH) (hw:WR X ρ w w') (m:Bool) (hB:Bot (fr::up)) (hgo:fr.mode=.run\/fr.defers≠[]\/up≠[]):
  y7 (λbase=>ay X.P m (G fr (up++base)) w):=by
 rcases hf.run with hm|hm
 ·have e:(λbase=>ay X.P m (G fr (up++base)) w)=λbase=>aq X.P m true fr (up++base) none w:=funext λbase=>yx _ _ _ _ _ hm;rw[e];refine Qy S hf hw hm m λh hu=>?_;subst hu;have:=hB fr (by simp);rw[this]at h;cases h
 ·have e:(λbase=>ay X.P m (G fr (up++base)) w)=λbase=>unwind X.P m fr (up++base) none w:=funext λbase=>zx _ _ _ _ _ hm;rw[e];exact La S hf hm m (hgo.resolve_left (by rw[hm];intro h;cases h))
end
end Sim
namespace Ph
open Go Go.Conc Go.ConcN Sim
structure Same (w wc:ag):Prop where
 heap:wc.heap=w.heap
 os:wc.os=w.os
 output:wc.output=w.output
theorem Same.refl (w:ag):Same w w:=⟨rfl,rfl,rfl⟩
section
variable {X:Cx} {Fb:bd->Bool} {SB:Blocks} {Q:ao->List ao->ag->Prop}
theorem ZP (oq:X.P'=X.P) (S:X.Set Fb true (λ_=>false)) (hQ:∀fr cs w,Q fr cs w->∀ch,fr.mode≠.panicking ch):∀{fr:ao} {cs:List ao} {w:ag},lN X.P Q fr cs w->
  ∀{ρ:Rel} {up base:List ao} {gs:Array aa} {wc:ag} {sl:Option (Nat×Nat)} {t:aG} {q:Nat->Nat},cs=up++[c0]->base≠[]->FR X Fb true ρ fr fr->FsR X Fb true ρ up up->WN X ρ w wc->Same w wc->NB w->Bot (fr::up)->
   gs[0]?=some (G fr (up++base))->bH X.P t gs q->yo SB wc gs.size t->rQ SB (rng ρ) (own X ρ) wc->
   ∃(N:Nat) (eZ:Array aa) (iF:ao) (wh:List ao) (w2 mG:ag) (sl':Option (Nat×Nat)) (t':aG) (q':Nat->Nat) (ρ2:Rel),
    runNT X.P N (crowd gs wc sl) t=(.next (crowd eZ mG sl'),t')/\Q iF (wh++[c0]) w2/\eZ.size=gs.size/\eZ[0]?=some (G iF (wh++base))/\Same w2 mG/\FR X Fb true ρ2 iF iF/\FsR X Fb true ρ2 wh wh/\WN X ρ2 w2 mG/\ρ.le ρ2/\NB w2/\
     bH X.P t' eZ q'/\yo SB mG eZ.size t'/\rQ SB (rng ρ2) (own X ρ2) mG:=by
 intro fr cs w h;induction h with
 | @done fr cs w hq=>
  rintro ρ up base gs wc sl t q rfl _ hf hu hw hs hn hB h0 hL hP hF;exact⟨0,gs,fr,up,w,wc,sl,t,q,ρ,rfl,hq,rfl,h0,hs,hf,hu,hw,ρ.le_refl,hn,hL,hP,hF⟩
 | @step fr cs w nf nc nw ne dL hm ih=>
  rintro ρ up base gs wc sl t q rfl mQ hf hu hw hs hn hB h0 hL hP hF;have key:∀d,∃jo up1 w1 ρ1 es,ay X.P true (G fr (up++base)) (wc.at d)=.go (G jo (up1++base)) (shf wc.tape (w.drawn,d) w1) es/\
    (∃τ,(Agree w τ)/\jo=nf τ/\up1++[c0]=nc τ/\w1=nw τ)/\FR X Fb true ρ1 jo jo/\FsR X Fb true ρ1 up1 up1/\WR X ρ1 w1 (shf wc.tape (w.drawn,d) w1)/\ρ.le ρ1/\NB w1/\Bot (jo::up1)/\
    rP (rng ρ) (own X ρ) (wc.at d) (rng ρ1) (own X ρ1) (shf wc.tape (w.drawn,d) w1) es:=λd=>by
   let τ:Tape:=λi q=>if i<w.drawn then w.tape i q else wc.tape (i-w.drawn+d) q
   have ha:Agree w τ:=λi q hi=>if_pos hi;have qE:Fit wc.tape (w.drawn,d) (re w τ):=⟨jd _,λi q hi=>by
    have fu:¬i<w.drawn:=Nat.not_lt.2 hi
    exact(if_neg fu).symm⟩
   have Nv:shf wc.tape (w.drawn,d) (re w τ)=wc.at d:=by
    have h1:=hs.heap;have h2:=hs.os;have h3:=hs.output;obtain⟨hp,tp,dr,os,out⟩:=wc;simp only at h1 h2 h3;subst h1;subst h2;subst h3;simp[shf,re,World.at]
   have pE:WR X ρ (re w τ) (wc.at d):=by
    obtain⟨τ0,_,k⟩:=hw;refine⟨k.fn,k.inj,k.heap,λi q=>?_,k.sh⟩;have h1:¬w.drawn+i<w.drawn:=by omega
    have h2:w.drawn+i-w.drawn+d=d+i:=by omega
    have h3:τ (w.drawn+i) q=wc.tape (w.drawn+i-w.drawn+d) q:=if_neg h1;rw[h2]at h3;exact h3
   have hst:ay X.P true (G fr (up++[c0])) (re w τ)=.go (G (nf τ) (nc τ)) (nw τ) (ne τ):=dL τ ha;by_cases hgo:fr.mode=.run\/fr.defers≠[]\/up≠[]
   ·rcases Qk S hf pE true hB hgo with⟨jo,up1,w1,es,xJ⟩|xJ
    ·have e1:ay X.P true (G fr (up++[c0])) (re w τ)=_:=xJ [c0];rw[hst]at e1;have e2:ay X.P true (G fr (up++base)) (re w τ)=_:=xJ base;have eG:up++base≠[]:=by simp[mQ]
     obtain⟨e3,jc6⟩:=q6x S (cs:=up++base) hf pE true eG _ _ _ e2 wc.tape (w.drawn,d) qE;rw[Nv]at e3;have e3:ay X.P true (G fr (up++base)) (wc.at d)=_:=e3;have out:=G8 S (base:=base) (base':=base) hf hu pE hn hB hgo true true;rw[oq,e3,e2]at out;generalize hg:GStep.go (G jo (up1++base)) w1 es=s at out;cases out with
     | @nice f1 Nu u1 JA ρ1 x1 Jy gH LY e h1 h2 h3 h4 h5 h6 h7 h8=>
      have oo:jo=f1/\up1++base=u1++base/\w1=x1:=by
       injection hg with a b c;injection a with a1 a2;exact⟨a1,a2,b⟩
      obtain⟨rfl,pF,rfl⟩:=oo;obtain rfl:=aF pF;have M5:jo=Nu/\up1++base=JA++base/\shf wc.tape (w.drawn,d) w1=Jy/\es=LY:=by
       injection e with a b c;injection a with a1 a2;exact⟨a1,a2,b,c⟩
      obtain⟨rfl,sO,rfl,rfl⟩:=M5;obtain rfl:=aF sO;have pY:nf τ=jo/\nc τ=up1++[c0]/\nw τ=w1:=by
       injection e1 with a b c;injection a with a1 a2;exact⟨a1,a2,b⟩
      exact⟨jo,up1,w1,ρ1,es,e3,⟨τ,ha,pY.1.symm,pY.2.1.symm,pY.2.2.symm⟩,h1,h2,h3,h4.le,h7,h8,Ew pE h4 h3 h6⟩
     |special k1 k2=>cases k2
     | @panic f1 u1 ch x1 gH h1 h2=>
      exfalso;have oo:jo={f1 with mode:=.panicking ch}/\up1++base=u1++base/\w1=x1:=by
       injection hg with a b c;injection a with a1 a2;exact⟨a1,a2,b⟩
      obtain⟨rfl,pF,rfl⟩:=oo;obtain rfl:=aF pF;have pY:nf τ={f1 with mode:=.panicking ch}/\nc τ=up1++[c0]/\nw τ=w1:=by
       injection e1 with a b c;injection a with a1 a2;exact⟨a1,a2,b⟩
      have uD:=hm τ ha;rw[pY.1,pY.2.1,pY.2.2]at uD;exact AP hQ uD trivial ⟨_,rfl⟩ (.inl ⟨_,rfl,h1,h2⟩)
     |ended=>cases hg
    ·exact absurd hst (xJ _ _ _ _)
   ·exfalso;have nu:up=[]:=aX λh=>hgo (.inr (.inr h));subst nu;obtain⟨h1,h2,h3⟩:=Hu S hf pE hn (λh=>hgo (h.imp id .inl)) hst;exact AP hQ (hm τ ha) h1 h2 h3
  have jC:0<gs.size:=(kg h0).1;obtain⟨N,lq,a1,d,Jz,es,iX,t1,q1,hr,hgo,hz,pX,uM,uK,_⟩:=CZ (P:=X.P) (SB:=SB) (sl:=sl) h0 rfl hL hP λd=>by
   obtain⟨jo,up1,w1,ρ1,es,e,_,_,_,_,_,_,_,ok⟩:=key d;have Br:rQ SB (rng ρ) (own X ρ) (wc.at d):=⟨hF.apart,hF.low,hF.own,hF.foot⟩
   have jK:=Br.step ok;exact⟨_,_,es,e,ok.size,λx hx=>⟨Gq (ok.ev x hx) jK.apart jK.foot,λy hy=>(Ki (ok.ev x hx) hy).1⟩⟩
  obtain⟨jo,up1,w1,ρ1,gY,e,⟨τ,ha,rfl,Dj,rfl⟩,h1,h2,h3,hle,h7,h8,ok⟩:=key d;rw[e]at hgo;have oo:G (nf τ) (up1++base)=a1/\shf wc.tape (w.drawn,d) (nw τ)=Jz/\gY=es:=by
   injection hgo with a b c;exact⟨a,b,c⟩
  obtain⟨rfl,rfl,rfl⟩:=oo;have Br:rQ SB (rng ρ) (own X ρ) (wc.at d):=⟨hF.apart,hF.low,hF.own,hF.foot⟩
  obtain⟨N',eZ,iF,wh,w2,mG,sl',t',q',ρ2,gu,hq,wU,qX,mJ,g1,g2,g3,g4,g5,qW,ou,jK⟩:=ih τ ha Dj.symm mQ h1 h2 (WN.of h3) ⟨rfl,rfl,rfl⟩ h7 h8 pX uM uK (Br.step ok);exact⟨N+N',eZ,iF,wh,w2,mG,sl',t',q',ρ2,runNT_trans _ hr gu,hq,wU.trans hz,qX,mJ,g1,g2,g3,Rel.le_trans hle g4,g5,qW,ou,jK⟩
end
structure At (X:Cx) (Fb:bd->Bool) (SB:Blocks) (ρ:Rel) (gs:Array aa) (fr:ao) (cs:List ao) (w:ag) (t:aG) (q:Nat->Nat):Prop where
 g0:gs[0]?=some (G fr cs)
 leavers:bH X.P t gs q
 past:yo SB w gs.size t
 foot:rQ SB (rng ρ) (own X ρ) w
 fr:FR X Fb true ρ fr fr
 cs:FsR X Fb true ρ cs cs
 wr:WR X ρ w w
 nb:NB w
def Runs (P:az) (gs:Array aa) (w:ag) (sl:Option (Nat×Nat)) (t:aG) (eZ:Array aa) (w':ag) (sl':Option (Nat×Nat)) (t':aG):Prop:= ∃N,runNT P N (crowd gs w sl) t=(.next (crowd eZ w' sl'),t')
theorem Runs.trans {P:az} {g1 g2 g3:Array aa} {w1 w2 w3:ag} {s1 s2 s3:Option (Nat×Nat)} {t1 t2 t3:aG} (h:Runs P g1 w1 s1 t1 g2 w2 s2 t2) (k:Runs P g2 w2 s2 t2 g3 w3 s3 t3):Runs P g1 w1 s1 t1 g3 w3 s3 t3:=by
 obtain⟨N,h⟩:=h;obtain⟨M,k⟩:=k;exact⟨N+M,runNT_trans _ h k⟩
def yG (b:ao) (k:List Item):Exit->Act->ao->Prop
 |.normal,a,fr=>fr=b.at a k
 |.exit id,a,fr=>∃k',aO id k=some k'/\fr=b.at a k'
 |.ret,a,fr=>∃todo,fr={b.at a todo with mode:=.returning}
 |_,_,_=>False
def Plain (k:List Item) (Q:Exit->Act->ag->Prop):Prop:= ∀e a w,Q e a w->match e with
 |.normal|.ret=>True
 |.exit id=>∃k',aO id k=some k'
 |_=>False
def Tgt (b:ao) (k:List Item) (Q:Exit->Act->ag->Prop) (fr:ao) (cs:List ao) (w:ag):Prop:=cs=[c0]/\∃e a,Q e a w/\yG b k e a fr
section
variable {X:Cx} {Fb:bd->Bool} {SB:Blocks}
theorem LC (S:X.Set Fb true (λ_=>false)) {b:ao} {Q:Exit->Act->ag->Prop} (hinv:Inv X Fb true fr [c0] w) (pI:Plain k Q) (pV:∀e a w wc,Same w wc->Q e a w->Q e a wc)
  (hp:∀τ,Agree w τ->∃e a' w',Q e a' w'/\Arrives X.P (lone fr [c0] (re w τ)) b k [c0] e a' w'):lN X.P (Tgt b k Q) fr [c0] w:=by
 refine bar S (λfr cs w h ch=>?_) (λfr cs w τ hi ha h=>?_) hinv (λτ ha=>?_)
 ·obtain⟨_,e,a,_,hl⟩:=h;cases e with
  |normal=>rw[show fr=b.at a k from hl];intro h;cases h
  |exit id=>obtain⟨k',_,rfl⟩:=hl;intro h;cases h
  |ret=>obtain⟨todo,rfl⟩:=hl;intro h;cases h
  |_=>exact hl.elim
 ·obtain⟨h1,e,a,h2,h3⟩:=h;exact⟨h1,e,a,pV e a (re w τ) w ⟨rfl,rfl,rfl⟩ h2,h3⟩
 ·obtain⟨e,a',w',hq,BS⟩:=hp τ ha;have hx:=pI _ _ _ hq;have go:∀{iF:ao},yG b k e a' iF->Steps X.P (lone fr [c0] (re w τ)) (lone iF [c0] w')->tN X.P (Tgt b k Q) fr [c0] (re w τ):=λhl hs=>by
   obtain⟨n,hn⟩:=hs;exact conv S (Q:=Tgt b k Q) ⟨rfl,e,a',hq,hl⟩ n (.inl (hinv.re τ)) hn
  cases e with
  |normal=>exact go rfl BS
  |exit id=>obtain⟨k',hk⟩:=hx;exact go ⟨k',hk,rfl⟩ (BS k' hk)
  |ret=>obtain⟨todo,hs⟩:=BS;exact go ⟨todo,rfl⟩ hs
  |_=>exact hx.elim
theorem piece (oq:X.P'=X.P) (S:X.Set Fb true (λ_=>false)) {gs:Array aa} {b:ao} {sl:Option (Nat×Nat)} {q:Nat->Nat} {Q:Exit->Act->ag->Prop}
  (h:At X Fb SB ρ gs fr cs w t q) (gI:cs≠[]) (nP:fr.roundOf=none) (pI:Plain k Q) (pV:∀e a w wc,Same w wc->Q e a w->Q e a wc)
  (hp:∀τ,Agree w τ->∃e a' w',Q e a' w'/\Arrives X.P (lone fr [c0] (re w τ)) b k [c0] e a' w'):
  ∃(eZ:Array aa) (e:Exit) (a':Act) (eH:ao) (w':ag) (sl':Option (Nat×Nat)) (t':aG) (q':Nat->Nat) (ρ':Rel),
   Runs X.P gs w sl t eZ w' sl' t'/\Q e a' w'/\yG b k e a' eH/\eZ.size=gs.size/\ρ.le ρ'/\At X Fb SB ρ' eZ eH cs w' t' q':=by
 have hB:Bot [fr]:=by
  intro f hf;simp at hf;subst hf;exact nP
 have hinv:Inv X Fb true fr [c0] w:=⟨ρ,fr,[],[],w,rfl,h.fr,.nil,h.wr,h.nb,hB⟩
 have hm:=LC S hinv pI pV hp;obtain⟨N,eZ,iF,wh,w2,mG,sl',t',q',ρ2,hr,⟨EQ,e,a',hq,hl⟩,hz,qX,hs,g1,g2,g3,g4,g5,qW,ou,jK⟩:=ZP oq S (λfr cs w h ch=>by
   obtain⟨_,e,a,_,hl⟩:=h;cases e with
   |normal=>rw[show fr=b.at a k from hl];intro h;cases h
   |exit id=>obtain⟨k',_,rfl⟩:=hl;intro h;cases h
   |ret=>obtain⟨todo,rfl⟩:=hl;intro h;cases h
   |_=>exact hl.elim) hm (up:=[]) rfl gI h.fr .nil (WN.of h.wr) (Same.refl w) h.nb hB h.g0 h.leavers h.past h.foot
 have hu:wh=[]:=by
  have:=congrArg List.length EQ;simp at this;exact List.eq_nil_of_length_eq_zero (by simpa using this)
 subst hu;refine⟨eZ,e,a',iF,mG,sl',t',q',ρ2,⟨N,hr⟩,pV _ _ _ _ hs hq,hl,hz,g4,⟨qX,qW,ou,jK,g1,h.cs.mono g4,?_,?_⟩⟩
 ·obtain⟨τ0,_,k0⟩:=g3;refine⟨k0.fn,k0.inj,λ{a b} gJ=>?_,λ_ _=>rfl,λa ha=>absurd ha (S.wrs rfl a)⟩;obtain⟨o,o',k1,k2,k3⟩:=k0.heap gJ;exact⟨o,o',by rw[hs.heap];exact k1,k2,k3⟩
 ·exact g5
end
end Ph
namespace Sim
open Go Go.Conc
def stop (n:Nat):Item:=.code (.loop (.block n .skip))
mutual
def st:List Item->List Item
 |k=>stop k.length::sf k
termination_by k=>2*k.length+1
def sf:List Item->List Item
 |[]=>[]
 |.inBlock id::k=>.inBlock id::st k
 |_::k=>sf k
termination_by k=>2*k.length
end
theorem sG (k:List Item):st k=stop k.length::sf k:=by rw[st]
theorem Yp (id:Nat) (k:List Item):aO id (sf k)=(aO id k).map st:=by
 induction k with
 |nil=>rw[sf];rfl
 |cons a k ih=>
  cases a with
  |inBlock yV=>
   rw[sf];unfold aO;split
   ·rfl
   ·rw[sG];show aO id (stop k.length::sf k)=_;rw[<-ih];rfl
  |_=>
   rw[sf,ih]
   ·rfl
   ·intro _ e;cases e
theorem Hq (id:Nat) (k:List Item):aO id (st k)=(aO id k).map st:=by
 rw[sG,<-Yp];rfl
theorem H8 (id:Nat) (k:List Item):∀u,aO id (u++k)=((aO id u).map (· ++k)).or (aO id k)
 |[]=>by simp[aO]
 |a::u=>by
  cases a with
  |inBlock yV=>
   show aO id (.inBlock yV::(u++k))=_;have e:∀l,aO id (.inBlock yV::l)=if yV==id then some l else aO id l:=λl=>rfl
   rw[e,e];split
   ·simp
   ·rw[H8 id k u]
  |_=>exact H8 id k u
theorem Tn {id:Nat}:∀{k k':List Item},aO id k=some k'->k' <:+ k
 |[],_,h=>by cases h
 |a::k,k',h=>by
  have key:∀{k1},aO id k=some k1->k1 <:+ a::k:=λh=>(Tn h).trans (List.suffix_cons a k);cases a with
  |inBlock yV=>
   unfold aO at h;split at h
   ·cases h;exact List.suffix_cons _ _
   ·exact key h
  |_=>exact key h
theorem ja0 {k1 k2:List Item} (h1:k1 <:+ k) (h2:k2 <:+ k) (h:st k1=st k2):k1=k2:=by
 rw[sG,sG]at h;injection h with h _;injection h with h;injection h with h;injection h with h _;exact(List.suffix_of_suffix_length_le h1 h2 (Nat.le_of_eq h)).eq_of_length h
theorem Te (P P':az) (Fb:bd->Bool) (wr:Bool) (n:Nat):codeOk P P' Fb wr (.loop (.block n .skip))=true:=rfl
section
variable {X:Cx} {Fb:bd->Bool} {wr:Bool} {sp:bd->Bool} {ρ:Rel}
theorem IsR.sf (X:Cx) (Fb:bd->Bool) (wr:Bool) (ρ:Rel):∀k,IsR X Fb wr ρ (sf k) (sf k)
 |[]=>by rw[Sim.sf];exact .nil
 |a::k=>by
  have ih:=IsR.sf X Fb wr ρ k;cases a with
  |inBlock id=>rw[Sim.sf,sG];exact .cons (.inBlock id) (.cons (.code (Te _ _ _ _ _)) ih)
  |_=>
   rw[Sim.sf]
   ·exact ih
   ·intro _ e;cases e
theorem IsR.st (X:Cx) (Fb:bd->Bool) (wr:Bool) (ρ:Rel) (k:List Item):IsR X Fb wr ρ (st k) (st k):=by
 rw[sG];exact .cons (.code (Te _ _ _ _ _)) (IsR.sf X Fb wr ρ k)
end
def Sim.bare (o:Oper):Oper:={o with guard:=none}
inductive TS (k:List Item) (tm:Array aN):List Item->List Item->Prop
 |code (a:Item) (u:List Item):TS k tm (a::u++st k) (a::u++k)
 |op {ops:Array Oper} {i:Nat} {td:List Nat} {k0:List Item} {o:Oper}:k=.inRegion ops td::k0->ops[i]?=some o->aS o (bQ ops tm)=true->
   TS k tm (.inRegion #[Sim.bare o] [0]::st k) (.inRegion ops (i::td)::k0)
def wt (f:ao) (t:List Item):ao:={f with todo:=t}
inductive Sw (k:List Item):ao->List ao->ao->List ao->Prop
 |bot {f:ao} {t t':List Item}:TS k f.tmps t t'->Sw k (wt f t) [] (wt f t') []
 |ret {f:ao} {t t':List Item}:f.mode=.returning->Sw k (wt f t) [] (wt f t') []
 |above {g:ao} {up:List ao} {f:ao} {t t':List Item}:TS k f.tmps t t'->Sw k g (up++[wt f t]) g (up++[wt f t'])
inductive Ld (k:List Item):ao->ao->Prop
 |land {f:ao} {k':List Item}:k'=k\/(∃id,aO id k=some k')->Ld k (wt f (st k')) (wt f k')
 |late {f:ao} {o:Oper}:Ld k (wt f (.inRegion #[o] []::st k)) (wt f k)
inductive Aft (k:List Item):ao->List ao->ao->List ao->Prop
 |sw {fr gr:ao} {up gup:List ao}:Sw k fr up gr gup->Aft k fr up gr gup
 |ld {fr gr:ao}:Ld k fr gr->Aft k fr [] gr []
 |panic {fr gr:ao} {ch:List PanicEntry}:fr.mode=.panicking ch->Aft k fr [] gr []
def jc (k:List Item) (base:List ao) (s s':cn):Prop:=
 (∃jo up1 nH oK w1 es,s=.go (G jo (up1++base)) w1 es/\s'=.go (G nH (oK++base)) w1 es/\Aft k jo up1 nH oK)\/∀g1 w1 es,s≠.go g1 w1 es
theorem jc.ended {base:List ao} {o:Outcome} {s':cn}:jc k base (.ended o w es) s':=.inr λ_ _ _ e=>by cases e
theorem jc.after {base:List ao} {gm:Array bq} {s s':cn} (h:jc k base s s'):jc k base (aR gm s) (aR gm s'):=by
 rcases h with⟨jo,up1,nH,oK,w1,es,rfl,rfl,h⟩|h
 ·exact .inl ⟨jo,up1,nH,oK,w1,gm++es,rfl,rfl,h⟩
 ·refine .inr λg1 w1 es e=>?_;obtain⟨oz,k1,_⟩:=Hr e;exact h g1 w1 oz k1
theorem jc.to {base:List ao} (f:ao) (u:List Item) (w:ag) (es:Array bq):jc k base (.go (G (wt f (u++st k)) base) w es) (.go (G (wt f (u++k)) base) w es):=by
 refine .inl ⟨wt f (u++st k),[],wt f (u++k),[],w,es,rfl,rfl,?_⟩;cases u with
 |nil=>exact .ld (.land (.inl rfl))
 |cons a u=>exact .sw (.bot (.code a u))
theorem jc.ret {k:List Item} {base:List ao} (f:ao) (t t':List Item) (hm:f.mode=.returning) (w:ag) (es:Array bq):jc k base (.go (G (wt f t) base) w es) (.go (G (wt f t') base) w es):=
 .inl ⟨wt f t,[],wt f t',[],w,es,rfl,rfl,.sw (.ret hm)⟩
theorem jc.panic {k:List Item} {base:List ao} {f g:ao} {ch:List PanicEntry} (hm:f.mode=.panicking ch) {w:ag} {es:Array bq}:jc k base (.go (G f base) w es) (.go (G g base) w es):=
 .inl ⟨f,[],g,[],w,es,rfl,rfl,.panic hm⟩
section
variable {X:Cx} {Fb:bd->Bool} {wr:Bool} {sp:bd->Bool} {ρ:Rel}
def QJ:List Item->Prop
 |.call _ _ _ _::_=>False
 |_=>True
theorem GY {base:List ao} {t:List Item} (hw:WR X ρ w w') (hm:f.mode=.run) (hk:f.kind=.normal) (hp:QJ t) (ET:QJ t')
  (xU:∀v,Aft k ((wt f t).finish v) [] ((wt f t').finish v) []) (I6:TS k f.tmps t t')
  {s s':Sem Next} (hs:SS X ρ s s' (λρ1 n n'=>NR X ρ1 n n')):jc k base (aQ X.P true (wt f t) base none s w) (aQ X.P true (wt f t') base none s w):=by
 have e1:((wt f t).kind==bN)=false:=by show(f.kind==_)=_;rw[hk];rfl
 have e2:((wt f t').kind==bN)=false:=e1;have pU:(match(wt f t).todo with|.call _ true _ _::_=>bF|_=>.normal)=.normal:=by
  show(match t with|.call _ true _ _::_=>bF|_=>.normal)=.normal;split
  ·exact hp.elim
  ·rfl
 have pR:(match(wt f t').todo with|.call _ true _ _::_=>bF|_=>.normal)=.normal:=by
  show(match t' with|.call _ true _ _::_=>bF|_=>.normal)=.normal;split
  ·exact ET.elim
  ·rfl
 rcases hr:s.runT X.P w #[]with⟨r,gm⟩
 unfold aQ;simp only[if_true,hr,e1,e2,aK,if_false,pU,pR];cases r with
 |halt h wx=>
  have gu:s.run X.P w=.halt h wx:=by rw[<-bj X.P s w #[],hr]
  obtain⟨o5,-⟩:=hs.2 w w' h wx hw gu;cases h with
  |panic v=>
   refine jc.after (jc.panic (ch:=[{v,recovered:=false}]) ?_);show((wt f t).raise _).mode=_;unfold cz;rw[show(wt f t).mode=.run from hm]
  |unsupported u=>
   cases u with
   |initOrder b=>exact o5.elim
   |_=>exact jc.after jc.ended
  |stuck m=>exact jc.after jc.ended
  |_=>exact o5.elim
 |ok n wx=>
  have gu:s.run X.P w=.ok n wx:=by rw[<-bj X.P s w #[],hr]
  obtain⟨ρ1,n',gB,gH,h1,h2,h3,h4,h5,h6,h7⟩:=hs.1 w w' n wx #[] hw gu;cases h6 with
  |value h=>exact jc.after (.inl ⟨_,[],_,[],_,_,rfl,rfl,xU _⟩)
  |skip=>exact jc.after (.inl ⟨_,[],_,[],_,_,rfl,rfl,xU _⟩)
  | @enter g gG yc _ _=>
   refine jc.after (.inl ⟨cM X.P g gG .normal,[wt f t],cM X.P g gG .normal,[wt f t'],wx,#[],?_,?_,.sw (.above (up:=[]) I6)⟩)
   ·rcases t with _|⟨i,l⟩
    ·rfl
    ·cases i<;>first|rfl|exact hp.elim
   ·rcases t' with _|⟨i,l⟩
    ·rfl
    ·cases i<;>first|rfl|exact ET.elim
  |round _ _ _ _ _=>exact jc.after (.inl ⟨_,[wt f t],_,[wt f t'],_,_,rfl,rfl,.sw (.above (up:=[]) I6)⟩)
end
section
variable {X:Cx} {Fb:bd->Bool} {wr:Bool} {sp:bd->Bool} {ρ:Rel}
theorem Gy (ho:ops[i]?=some o) (hr:f.roundOf=none) (base:List ao) (w:ag):
  bg X.P true (wt f (.inRegion ops (i::td)::l)) base none w=aQ X.P true (wt f (.inRegion ops (i::td)::l)) base none (co f.eval o) w:=by
 have um:(wt f (.inRegion ops (i::td)::l)).oper?=some o:=ho;have e:(wt f (.inRegion ops (i::td)::l)).eval=f.eval:=by funext x;cases x<;>rfl
 unfold bg;rw[um];dsimp only;rw[e];have gu:(wt f (.inRegion ops (i::td)::l)).roundOf=none:=hr;rw[gu]
theorem RQ {P:az} {m:Bool} (h:((ops[i]?).map (aS · (bQ ops f.tmps))).getD false=true) (base:List ao) (w:ag):
  aq P m true (wt f (.inRegion ops (i::td)::l)) base none w=bg P true (wt f (.inRegion ops (i::td)::l)) base none w:=by
 unfold aq;exact if_pos h
theorem RU {P:az} {m:Bool} (h:¬((ops[i]?).map (aS · (bQ ops f.tmps))).getD false=true) (base:List ao) (w:ag):
  aq P m true (wt f (.inRegion ops (i::td)::l)) base none w=.go (G ((wt f (.inRegion ops (i::td)::l)).finish ae) base) w #[]:=by
 unfold aq;exact if_neg h
theorem Lu {u:List Item} (v:aN):
  Aft k ((wt f (.inRegion ops (i::td)::u++st k)).finish v) [] ((wt f (.inRegion ops (i::td)::u++k)).finish v) []:=
 .sw (.bot (f:={f with tmps:=match(ops[i]?).bind (·.dst)with
        |some d=>f.tmps.setIfInBounds d v
        |none=>f.tmps}) (.code (.inRegion ops td) u))
theorem RI {k0:List Item} (hk:k=.inRegion ops td::k0) (ho:ops[i]?=some o) (v:aN):
  Aft k ((wt f (.inRegion #[Sim.bare o] [0]::st k)).finish v) [] ((wt f (.inRegion ops (i::td)::k0)).finish v) []:=by
 have e:(wt f (.inRegion ops (i::td)::k0)).finish v=wt {f with tmps:=match o.dst with
        |some d=>f.tmps.setIfInBounds d v
        |none=>f.tmps} k:=by
  show(Frame.mk _ _ _ _ _ _ _:ao)=_;subst hk;unfold wt;simp only[ho,Option.bind_some];rfl
 rw[e];exact .ld (.late (f:={f with tmps:=match o.dst with
        |some d=>f.tmps.setIfInBounds d v
        |none=>f.tmps}) (o:=Sim.bare o))
theorem q3g (S:X.Set Fb wr sp) {base:List ao} {t:List Item} (I6:TS k f.tmps t t') (hf:FR X Fb wr ρ (wt f t) eH) (hw:WR X ρ w w') (hm:f.mode=.run) (m:Bool) (nP:f.roundOf=none):
  jc k base (aq X.P m true (wt f t) base none w) (aq X.P m true (wt f t') base none w):=by
 have hk:f.kind=.normal:=hf.kind;have kJ:=hf.eval S;have gN:∀c,codeOk X.P X.P' Fb wr c=true->X.C c:=λc h=>(S.c c).2 h;have Ji:∀t,(wt f t).eval=f.eval:=λt=>by funext x;cases x<;>rfl
 cases I6 with
 | @op ops i td k0 o e ho dX=>
  have uq:aS (Sim.bare o) (bQ #[Sim.bare o] f.tmps)=true:=rfl;have ht:IsR X Fb wr ρ (.inRegion #[Sim.bare o] [0]::st k) eH.todo:=hf.todo;have fJ:l9 X.P X.P' Fb wr (Sim.bare o)=true:=by
   generalize eH.todo=tf at ht;cases ht with
   |cons a b=>cases a with
    |inRegion td c=>exact Av c (i:=0) rfl
  have ex:co f.eval (Sim.bare o)=co f.eval o:=rfl;have e1:aq X.P m true (wt f (.inRegion #[Sim.bare o] [0]::st k)) base none w=bg X.P true (wt f (.inRegion #[Sim.bare o] [0]::st k)) base none w:=by
   unfold aq;exact if_pos uq
  have e2:aq X.P m true (wt f (.inRegion ops (i::td)::k0)) base none w=bg X.P true (wt f (.inRegion ops (i::td)::k0)) base none w:=by
   unfold aq;refine if_pos ?_;show((ops[i]?).map (aS · (bQ ops f.tmps))).getD false=true;rw[ho];exact dX
  rw[e1,e2,Gy (o:=Sim.bare o) rfl nP,Gy ho nP,ex];refine GY (t:=.inRegion #[Sim.bare o] [0]::st k) (t':=.inRegion ops (i::td)::k0) hw hm hk trivial trivial (λv=>RI e ho v) (.op e ho dX) ?_ (s':=co eH.eval (Sim.bare o));rw[<-ex,<-Ji];exact SS.execOp S.ok wr S.wrs _ fJ _ _ kJ
 | @code a u=>
  have ht:IsR X Fb wr ρ (a::(u++st k)) eH.todo:=hf.todo;show jc k base (aq X.P m true (wt f (a::(u++st k))) base none w) (aq X.P m true (wt f (a::(u++k))) base none w);generalize htd:eH.todo=tf at ht;cases ht with
  | @cons _ i' _ l' a b=>
  unfold aq;cases a with
  |inBlock id=>exact jc.to f u w #[]
  | @inLoop c=>exact jc.to f (.code c::.inLoop c::u) w #[]
  |inRangeFunc r=>exact jc.ended
  |beginRound=>
   have UB:∀t,(wt f t).roundOf=none:=λ_=>nP;dsimp only;rw[UB,UB];refine GY (t:=.beginRound::u++st k) (t':=.beginRound::u++k) hw hm hk trivial trivial (λv=>?_) (.code .beginRound u) (SS.dies (qx.jG (qx.stuck _)):SS X ρ _ (do(none.elim (Go.stuck "beginRound: no round") bC:Sem Unit);Pure.pure .skip) _);cases u with
   |nil=>exact .ld (.land (f:=f) (.inl rfl))
   |cons a u=>exact .sw (.bot (f:=f) (.code a u))
  | @endRangeFunc l l' r=>
   dsimp only[wt];generalize (bR l).runT X.P w #[]=p0;obtain⟨r0,gm⟩:=p0;cases r0 with
   |halt h wx=>
    cases h with
    |panic v=>
     refine jc.after (jc.panic (ch:=[{v,recovered:=false}]) ?_);unfold cz;simp only[hm]
    |_=>exact jc.after jc.ended
   |ok j wx=>
    refine jc.after ?_;have:=jc.to (k:=k) (base:=base) f ((j.map Item.code).toList++u) wx #[];rw[aY,aY]at this;exact this
  | @inRegion ops td c=>
   cases td with
   |nil=>exact jc.to f u w #[]
   |cons i td=>
    show jc k base (aq X.P m true (wt f (.inRegion ops (i::td)::(u++st k))) base none w) (aq X.P m true (wt f (.inRegion ops (i::td)::(u++k))) base none w);by_cases dX:((ops[i]?).map (aS · (bQ ops f.tmps))).getD false=true
    ·rw[RQ dX,RQ dX];cases ho:ops[i]? with
     |none=>rw[ho]at dX;cases dX
     |some o=>
      have fJ:=Av c ho;rw[Gy ho nP,Gy ho nP];refine GY (t:=.inRegion ops (i::td)::u++st k) (t':=.inRegion ops (i::td)::u++k) hw hm hk trivial trivial (λv=>Lu (u:=u) v) (.code (.inRegion ops (i::td)) u) ?_ (s':=co eH.eval o);rw[<-Ji];exact SS.execOp S.ok wr S.wrs o fJ _ _ kJ
    ·rw[RU dX,RU dX];exact .inl ⟨_,[],_,[],_,_,rfl,rfl,Lu (u:=u) ae⟩
  | @code c hc=>
   cases c with
   |skip=>exact jc.to f u w #[]
   |ret=>
    dsimp only[wt];simp only[nP,if_true];rw[<-nP];exact jc.ret {f with mode:=.returning} (.code .ret::(u++st k)) (.code .ret::(u++k)) rfl w #[]
   |seq x y=>exact jc.to f (.code x::.code y::u) w #[]
   |cond x y z=>
    have U9:∀t,bD {f with todo:=t} x=f.eval x:=λt=>congrFun (Ji t) x;dsimp only[wt];rw[U9 (.code (.cond x y z)::(u++st k)),U9 (.code (.cond x y z)::(u++k))];generalize f.eval x=v;cases v<;>first|exact jc.ended|exact jc.to f (.code _::u) w #[]
   |block id c=>exact jc.to f (.code c::.inBlock id::u) w #[]
   |loop c=>exact jc.to f (.code c::.inLoop c::u) w #[]
   |exit id=>
    dsimp only[wt];simp only[nP];rw[<-nP,H8,H8,Hq];cases h1:aO id u with
    |some u'=>exact jc.to f u' w #[]
    |none=>
     cases h2:aO id k with
     |some k'=>exact .inl ⟨wt f (st k'),[],wt f k',[],w,#[],rfl,rfl,.ld (.land (.inr ⟨id,h2⟩))⟩
     |none=>exact jc.ended
   |region id ops draw=>
    cases draw with
    |false=>exact jc.to f (.inRegion ops _::u) w #[]
    |true=>
     dsimp only[wt];simp only[bT,aK,if_false];rcases hr:(choose (.order f.fn id)).run X.P w with⟨t,wx⟩|⟨h,wx⟩
     ·exact jc.to f (.inRegion ops _::u) wx #[]
     ·exact jc.ended
   |rangeFunc g params assign body=>
    simp only[codeOk,bE]at hc;obtain⟨jA,lm,uI⟩:=hc;have hG:X.G f.fn:=hf.same;have tq:oM ρ f.roundOf eH.roundOf:=hf.round;have vQ:=SS.enterLoop hG (show jy X.F ρ f.tmps.toList eH.tmps.toList from hf.tmps) params (gN _ lm) (gN _ uI) tq;dsimp only[wt];generalize hr:(bI f.fn f.tmps params assign body f.roundOf).runT X.P w #[]=p0;obtain⟨r0,gm⟩:=p0;cases r0 with
    |halt h wx=>exact jc.after jc.ended
    |ok p wx=>
     obtain⟨l1,mark⟩:=p;obtain⟨ρ1,p',gB,gH,h1,h2,h3,h4,h5,⟨h6,nV⟩,h7⟩:=sM vQ hw hr;obtain⟨vJ,iP⟩:=p';dsimp only at h6 nV;have OE:EvR X.F Fb ρ1 f.eval eH.eval:=by
      have:=(hf.mono h3.le).eval S;rw[Ji]at this;exact this
     exact jc.after (GY (f:={f with defers:=mark++f.defers}) (t:=.inRangeFunc l1::u++st k) (t':=.inRangeFunc l1::u++k) h2 hm hk trivial trivial
      (λv=>.sw (.bot (f:={f with defers:=mark++f.defers}) (.code (.endRangeFunc l1) u))) (.code (.inRangeFunc l1) u) (SS.iterate S.ok (λ_=>rfl) (λ_=>rfl) (OE.1 g jA) h6))
   |_=>simp[codeOk]at hc
end
def BcS (f:List ao->cn):Prop:=y7 f\/∃v w1 es,∀c base,f (c::base)=.go (G (Frame.finish c v) base) w1 es
theorem BcS.of {f:List ao->cn} (h:y7 f):BcS f:=.inl h
section
variable {X:Cx} {Fb:bd->Bool} {wr:Bool} {sp:bd->Bool} {ρ:Rel}
theorem KH (hk:fr.kind=.normal) (jump:Option Code) (m:Bool):BcS (λbase=>rM X.P m fr base jump w):=by
 cases nP:fr.roundOf with
 |none=>exact .inl (GR (up:=[]) hk jump m (by rw[nP];intro h;cases h))
 |some l=>
  obtain⟨fn,tmps,todo,defers,mode,kind,ro⟩:=fr;obtain rfl:kind=.normal:=hk;obtain rfl:ro=some l:=nP;unfold rM;dsimp only;rcases hr:(cf l jump).runT X.P w #[]with⟨r,gm⟩
  cases r with
  |halt h wx=>exact .inl (y7.after (y7.ended λ_=>⟨_,_,_,rfl⟩))
  |ok v wx=>exact .inr ⟨v,wx,seen X.P fn gm++#[],λc base=>rfl⟩
theorem q3f (S:X.Set Fb wr sp) (hf:FR X Fb wr ρ fr eH) (hw:WR X ρ w w') (hm:fr.mode=.run) (m:Bool):
  BcS (λbase=>aq X.P m true fr base none w):=by
 obtain⟨fn,tmps,todo,defers,mode,kind,ro⟩:=fr;obtain⟨fn',kQ,todo',defers',oP,kind',kN⟩:=eH;have ht:IsR X Fb wr ρ todo todo':=hf.todo;obtain rfl:fn'=fn:=hf.fn;have hk:kind=.normal:=hf.kind;have gN:∀c,codeOk X.P X.P' Fb wr c=true->X.C c:=λc h=>(S.c c).2 h;unfold aq;cases ht with
 |nil=>exact KH hk none m
 | @cons i i' l l' a b=>
  cases a with
  |inBlock id=>exact BcS.of<|y7.go _ [] w #[] λ_=>rfl
  |inLoop c=>exact BcS.of<|y7.go _ [] w #[] λ_=>rfl
  |inRangeFunc r=>exact BcS.of<|y7.ended λ_=>⟨_,_,_,rfl⟩
  |beginRound=>
   refine BcS.of<|CV (up:=[]) (fr:=⟨fn',tmps,_,defers,mode,kind,ro⟩) (s':=do(kN.elim (Go.stuck "beginRound: no round") bC:Sem Unit);Pure.pure .skip) hw hm hk ?_;have pG:oM ρ ro kN:=hf.round;rcases pG with⟨rfl,rfl⟩|⟨l,l',rfl,rfl,hl⟩
   ·exact SS.dies (qx.jG (qx.stuck _))
   ·exact(SS.beginRound hl).bind λ_ _ _ _ _=>SS.pure .skip
  | @endRangeFunc l l' r=>
   dsimp only;rcases hr:(bR l).runT X.P w #[]with⟨r0,gm⟩
   cases r0 with
   |halt h wx=>
    cases h with
    |panic v=>exact BcS.of<|y7.after (y7.go _ [] wx #[] λ_=>rfl)
    |_=>exact BcS.of<|y7.after (y7.ended λ_=>⟨_,_,_,rfl⟩)
   |ok j wx=>exact BcS.of<|y7.after (y7.go _ [] wx #[] λ_=>rfl)
  | @inRegion ops td c=>
   cases td with
   |nil=>exact BcS.of<|y7.go _ [] w #[] λ_=>rfl
   |cons i td=>
    dsimp only;by_cases dX:((ops[i]?).map (aS · (bQ ops tmps))).getD false=true
    ·simp only[if_pos dX];cases ho:ops[i]? with
     |none=>rw[ho]at dX;cases dX
     |some o=>
      have fJ:=Av c ho;have nd:∀c,o.op≠.defer c:=λc e=>by
       unfold l9 at fJ;rw[e]at fJ;simp at fJ
      have um:(⟨fn',tmps,.inRegion ops (i::td)::l,defers,mode,kind,ro⟩:ao).oper?=some o:=ho;have e:(λbase=>bg X.P true (⟨fn',tmps,.inRegion ops (i::td)::l,defers,mode,kind,ro⟩:ao) base none w)=
        λbase=>aQ X.P true (⟨fn',tmps,.inRegion ops (i::td)::l,defers,mode,kind,ro⟩:ao) base none (co (bD (⟨fn',tmps,.inRegion ops (i::td)::l,defers,mode,kind,ro⟩:ao)) o) w:=by
       funext base;unfold bg;rw[um];dsimp only;split
       ·rename_i e;exact absurd e (nd _)
       ·rfl
      rw[e];exact BcS.of<|CV (up:=[]) hw hm hk (SS.execOp S.ok wr S.wrs o fJ _ _ (hf.eval S))
    ·simp only[if_neg dX];exact BcS.of<|y7.go _ [] w #[] λ_=>rfl
  | @code c hc=>
   cases c with
   |skip=>exact BcS.of<|y7.go _ [] w #[] λ_=>rfl
   |ret=>exact KH (fr:=⟨fn',tmps,_,defers,mode,kind,ro⟩) hk (some .ret) m
   |seq x y=>exact BcS.of<|y7.go _ [] w #[] λ_=>rfl
   |cond x y z=>
    dsimp only;generalize bD _ x=v;cases v<;>first|exact BcS.of<|y7.go _ [] w #[] (λ_=>rfl)|exact BcS.of<|y7.ended λ_=>⟨_,_,_,rfl⟩
   |block id c=>exact BcS.of<|y7.go _ [] w #[] λ_=>rfl
   |loop c=>exact BcS.of<|y7.go _ [] w #[] λ_=>rfl
   |exit id=>
    dsimp only;cases aO id l with
    |none=>exact KH (fr:=⟨fn',tmps,_,defers,mode,kind,ro⟩) hk (some (.exit id)) m
    |some k=>exact BcS.of<|y7.go _ [] w #[] λ_=>rfl
   |region id ops draw=>
    cases draw with
    |false=>exact BcS.of<|y7.go _ [] w #[] λ_=>rfl
    |true=>
     dsimp only;simp only[bT,aK,if_false];rcases hr:(choose (.order fn' id)).run X.P w with⟨t,wx⟩|⟨h,wx⟩
     ·exact BcS.of<|y7.go _ [] wx #[] λ_=>rfl
     ·exact BcS.of<|y7.ended λ_=>⟨_,_,_,rfl⟩
   |rangeFunc f params assign body=>
    simp only[codeOk,bE]at hc;obtain⟨jA,lm,uI⟩:=hc;have hG:X.G fn':=hf.same;dsimp only;rcases hr:(bI fn' tmps params assign body ro).runT X.P w #[]with⟨r0,gm⟩
    have vQ:=SS.enterLoop hG hf.tmps params (gN _ lm) (gN _ uI) hf.round;cases r0 with
    |halt h wx=>exact BcS.of<|y7.after (y7.ended λ_=>⟨_,_,_,rfl⟩)
    |ok p wx=>
     obtain⟨l1,mark⟩:=p;obtain⟨ρ1,p',gB,gH,h1,h2,h3,h4,h5,⟨h6,nV⟩,h7⟩:=sM vQ hw hr;obtain⟨vJ,iP⟩:=p';dsimp only at h6 nV;have fK:=hf.mono h3.le;have tu:FR X Fb wr ρ1 ⟨fn',tmps,.inRangeFunc l1::l,mark++defers,mode,kind,ro⟩ ⟨fn',kQ,.inRangeFunc vJ::l',iP++defers',oP,kind',kN⟩:=
      ⟨fK.fn,fK.same,fK.tmps,.cons (.inRangeFunc h6) (b.mono h3.le),nV.append fK.defers,fK.mode,fK.run,fK.kind,fK.kind',fK.round⟩
     exact BcS.of<|y7.after (CV (up:=[]) (fr:=⟨fn',tmps,.inRangeFunc l1::l,mark++defers,mode,kind,ro⟩) h2 hm hk (SS.iterate S.ok (λ_=>rfl) (λ_=>rfl) ((tu.eval S).1 f jA) h6))
   |_=>simp[codeOk]at hc
theorem Ye (S:X.Set Fb wr sp) (hf:FR X Fb wr ρ fr eH) (hm:fr.mode=.returning) (m:Bool):BcS (λbase=>unwind X.P m fr base none w):=by
 by_cases hd:fr.defers=[]
 ·obtain⟨fn,tmps,todo,defers,mode,kind,ro⟩:=fr;obtain rfl:mode=.returning:=hm;obtain rfl:kind=.normal:=hf.kind;obtain rfl:defers=[]:=hd;obtain⟨f,q1,q2⟩:=hf.same;have q1:X.P.funcs[fn]?=some f:=q1;unfold unwind;dsimp only;rw[q1];dsimp only;rcases hr:(results f tmps).runT X.P w #[]with⟨r0,gm⟩
  cases r0 with
  |halt h wx=>cases h<;>exact .inl (y7.after (y7.ended λ_=>⟨_,_,_,rfl⟩))
  |ok v wx=>exact .inr ⟨v,wx,_,λc base=>rfl⟩
 ·exact .inl (La (up:=[]) S hf hm m (.inl hd))
theorem q6w (S:X.Set Fb wr sp) (hf:FR X Fb wr ρ fr eH) (hw:WR X ρ w w') (m:Bool):BcS (λbase=>ay X.P m (G fr base) w):=by
 rcases hf.run with hm|hm
 ·have e:(λbase=>ay X.P m (G fr base) w)=λbase=>aq X.P m true fr base none w:=funext λbase=>yx _ _ _ _ _ hm;rw[e];exact q3f S hf hw hm m
 ·have e:(λbase=>ay X.P m (G fr base) w)=λbase=>unwind X.P m fr base none w:=funext λbase=>zx _ _ _ _ _ hm;rw[e];exact Ye S hf hm m
theorem Zv {t:List Item} (h:TS k f.tmps t t') (v:aN):Aft k ((wt f t).finish v) [] ((wt f t').finish v) []:=by
 cases h with
 |op e ho hw=>exact RI e ho v
 |code a u=>
  cases a with
  |inRegion ops td=>
   cases td with
   |nil=>exact .sw (.bot (f:=f) (.code (.inRegion ops []) u))
   |cons i td=>exact Lu (u:=u) v
  |inRangeFunc l=>exact .sw (.bot (f:=f) (.code (.endRangeFunc l) u))
  |beginRound=>
   cases u with
   |nil=>exact .ld (.land (f:=f) (.inl rfl))
   |cons a u=>exact .sw (.bot (f:=f) (.code a u))
  |call d wrapper resume saved=>exact .sw (.bot (f:=f) (.code _ u))
  |code c=>exact .sw (.bot (f:=f) (.code (.code c) u))
  |inBlock id=>exact .sw (.bot (f:=f) (.code (.inBlock id) u))
  |inLoop c=>exact .sw (.bot (f:=f) (.code (.inLoop c) u))
  |inScope c=>exact .sw (.bot (f:=f) (.code (.inScope c) u))
  |endRangeFunc c=>exact .sw (.bot (f:=f) (.code (.endRangeFunc c) u))
  |_=>
   cases u with
   |nil=>exact .ld (.land (f:={f with tmps:=#[v]}) (.inl rfl))
   |cons a u=>exact .sw (.bot (f:={f with tmps:=#[v]}) (.code a u))
theorem Yd {base:List ao} {t:List Item} (hf:FR X Fb wr ρ (wt f t) eH) (hm:f.mode=.returning) (m:Bool) (hd:f.defers≠[]):
  jc k base (unwind X.P m (wt f t) base none w) (unwind X.P m (wt f t') base none w):=by
 obtain⟨fn,tmps,todo,defers,mode,kind,ro⟩:=f;obtain rfl:mode=.returning:=hm;obtain rfl:kind=.normal:=hf.kind;have Va:DsR ρ defers eH.defers:=hf.defers;generalize eH.defers=ds at Va;cases Va with
 |nil=>exact absurd rfl hd
 | @cons r r' l l' a b=>
  unfold unwind wt;dsimp only;generalize (bO r).runT X.P w #[]=p0;obtain⟨r0,gm⟩:=p0;cases r0 with
  |halt h wx=>exact jc.after jc.ended
  |ok v wx=>exact jc.after (jc.ret ⟨fn,tmps,[],_,.returning,.normal,ro⟩ t t' rfl wx #[])
theorem q6y (S:X.Set Fb wr sp) {base:List ao} {gr:ao} {gup:List ao} (wX:Sw k fr up gr gup) (hf:FR X Fb wr ρ fr eH) (hw:WR X ρ w w') (m:Bool) (hB:Bot (fr::up)) (hgo:fr.mode=.run\/fr.defers≠[]\/up≠[]):
  jc k base (ay X.P m (G fr (up++base)) w) (ay X.P m (G gr (gup++base)) w):=by
 have ret:∀{f:ao} {t t':List Item},f.mode=.returning->FR X Fb wr ρ (wt f t) eH->f.defers≠[]->jc k base (ay X.P m (G (wt f t) base) w) (ay X.P m (G (wt f t') base) w):=λ{f t t'} hm hf hd=>by
  rw[zx _ _ _ _ _ (show(wt f t).mode=.returning from hm),zx _ _ _ _ _ (show(wt f t').mode=.returning from hm)];exact Yd hf hm m hd
 cases wX with
 | @ret f t t' hm=>
  refine ret hm hf ?_;rcases hgo with h|h|h
  ·rw[show(wt f t).mode=.returning from hm]at h;cases h
  ·exact h
  ·exact absurd rfl h
 | @bot f t t' h=>
  rcases hf.run with hm|hm
  ·have hm:f.mode=.run:=hm;have nP:f.roundOf=none:=hB (wt f t) (by simp);show jc k base (ay X.P m (G (wt f t) base) w) (ay X.P m (G (wt f t') base) w);rw[yx _ _ _ _ _ (show(wt f t).mode=.run from hm),yx _ _ _ _ _ (show(wt f t').mode=.run from hm)];exact q3g S h hf hw hm m nP
  ·have hm:f.mode=.returning:=hm;refine ret hm hf ?_;rcases hgo with h|h|h
   ·rw[show(wt f t).mode=.returning from hm]at h;cases h
   ·exact h
   ·exact absurd rfl h
 | @above _ up f t t' h=>
  rw[aY,aY];have go:∀{jo:ao} {up1:List ao} {w1:ag} {es:Array bq},(∀base,ay X.P m (G fr (up++base)) w=.go (G jo (up1++base)) w1 es)->
    jc k base (ay X.P m (G fr (up++([wt f t]++base))) w) (ay X.P m (G fr (up++([wt f t']++base))) w):=λ{jo up1 w1 es} e=>
   .inl ⟨jo,up1++[wt f t],jo,up1++[wt f t'],w1,es,by rw[e,aY],by rw[e,aY],.sw (.above h)⟩
  by_cases hu:up=[]
  ·subst hu;rcases q6w S hf hw m with(⟨jo,up1,w1,es,e⟩|e)|⟨v,w1,es,e⟩
   ·exact go e
   ·exact .inr (e _)
   ·exact .inl ⟨_,[],_,[],w1,es,e _ _,e _ _,Zv h v⟩
  ·have hgo:y7 (λbase=>ay X.P m (G fr (up++base)) w):=by
    rcases hf.run with hm|hm
    ·have e:(λbase=>ay X.P m (G fr (up++base)) w)=λbase=>aq X.P m true fr (up++base) none w:=funext λbase=>yx _ _ _ _ _ hm;rw[e];exact Qy S hf hw hm m λ_=>hu
    ·have e:(λbase=>ay X.P m (G fr (up++base)) w)=λbase=>unwind X.P m fr (up++base) none w:=funext λbase=>zx _ _ _ _ _ hm;rw[e];exact La S hf hm m (.inr hu)
   rcases hgo with⟨jo,up1,w1,es,e⟩|e
   ·exact go e
   ·exact .inr (e _)
end
end Sim
namespace Ph
open Go Go.Conc Go.ConcN Sim
section
variable {X:Cx} {Fb:bd->Bool} {SB:Blocks} {Q:ao->List ao->ag->Prop}
theorem q1y {wr:Bool} {sp:bd->Bool} (S:X.Set Fb wr sp) (hf:FR X Fb wr ρ fr eH) (hw:WR X ρ w w') (m:Bool) (eG:fr.roundOf.isSome->cs≠[]) (hgo:fr.mode=.run\/fr.defers≠[]\/cs≠[]):
  ShS (λw=>ay X.P m (G fr cs) w) w:=by
 rcases hf.run with hm|hm
 ·have e:(λw=>ay X.P m (G fr cs) w)=λw=>aq X.P m true fr cs none w:=funext λw=>yx _ _ _ _ _ hm;rw[e];exact Qx S hf hw hm m eG
 ·have e:(λw=>ay X.P m (G fr cs) w)=λw=>unwind X.P m fr cs none w:=funext λw=>zx _ _ _ _ _ hm;rw[e];exact Ry S hf hw hm m (hgo.resolve_left (by rw[hm];intro h;cases h))
theorem Zl (oq:X.P'=X.P) (S:X.Set Fb true (λ_=>false)) (hQ:∀fr cs w,Q fr cs w->∀ch,fr.mode≠.panicking ch) {base:List ao} {wc:ag}
  {nf:Tape->ao} {nc:Tape->List ao} {nw:Tape->ag} {ne:Tape->Array bq} (dL:∀τ:Tape,(∀i q,i<w.drawn->τ i q=w.tape i q)->ay X.P true (G fr (up++[c0])) {w with tape:=τ}=.go (G (nf τ) (nc τ)) (nw τ) (ne τ))
  (hm:∀τ:Tape,(∀i q,i<w.drawn->τ i q=w.tape i q)->lN X.P Q (nf τ) (nc τ) (nw τ))
  (hf:FR X Fb true ρ fr fr) (hu:FsR X Fb true ρ up up) (hw:WN X ρ w wc) (hs:Same w wc) (hn:NB w) (hB:Bot (fr::up)):
  (fr.mode=.run\/fr.defers≠[]\/up≠[])/\∀d,∃jo up1 w1 ρ1 es,ay X.P true (G fr (up++base)) (wc.at d)=.go (G jo (up1++base)) (shf wc.tape (w.drawn,d) w1) es/\
    (∃τ,(Agree w τ)/\jo=nf τ/\up1++[c0]=nc τ/\w1=nw τ)/\FR X Fb true ρ1 jo jo/\FsR X Fb true ρ1 up1 up1/\WR X ρ1 w1 (shf wc.tape (w.drawn,d) w1)/\ρ.le ρ1/\NB w1/\Bot (jo::up1)/\
    rP (rng ρ) (own X ρ) (wc.at d) (rng ρ1) (own X ρ1) (shf wc.tape (w.drawn,d) w1) es:=by
 have OC:fr.mode=.run\/fr.defers≠[]\/up≠[]:=by
  refine aX λhgo=>?_;have nu:up=[]:=aX λh=>hgo (.inr (.inr h));subst nu;obtain⟨τ0,Vh,k0⟩:=hw;have hst:ay X.P true (G fr [c0]) (re w τ0)=.go (G (nf τ0) (nc τ0)) (nw τ0) (ne τ0):=dL τ0 Vh;obtain⟨h1,h2,h3⟩:=Hu S hf k0 hn (λh=>hgo (h.imp id .inl)) hst;exact AP hQ (hm τ0 Vh) h1 h2 h3
 refine⟨OC,λd=>?_⟩
 let τ:Tape:=λi q=>if i<w.drawn then w.tape i q else wc.tape (i-w.drawn+d) q
 have ha:Agree w τ:=λi q hi=>if_pos hi;have qE:Fit wc.tape (w.drawn,d) (re w τ):=⟨jd _,λi q hi=>by
  have fu:¬i<w.drawn:=Nat.not_lt.2 hi
  exact(if_neg fu).symm⟩
 have Nv:shf wc.tape (w.drawn,d) (re w τ)=wc.at d:=by
  have h1:=hs.heap;have h2:=hs.os;have h3:=hs.output;obtain⟨hp,tp,dr,os,out⟩:=wc;simp only at h1 h2 h3;subst h1;subst h2;subst h3;simp[shf,re,World.at]
 have pE:WR X ρ (re w τ) (wc.at d):=by
  obtain⟨τ0,_,k⟩:=hw;refine⟨k.fn,k.inj,k.heap,λi q=>?_,k.sh⟩;have h1:¬w.drawn+i<w.drawn:=by omega
  have h2:w.drawn+i-w.drawn+d=d+i:=by omega
  have h3:τ (w.drawn+i) q=wc.tape (w.drawn+i-w.drawn+d) q:=if_neg h1;rw[h2]at h3;exact h3
 have hst:ay X.P true (G fr (up++[c0])) (re w τ)=.go (G (nf τ) (nc τ)) (nw τ) (ne τ):=dL τ ha;by_cases hgo:fr.mode=.run\/fr.defers≠[]\/up≠[]
 ·rcases Qk S hf pE true hB hgo with⟨jo,up1,w1,es,xJ⟩|xJ
  ·have e1:ay X.P true (G fr (up++[c0])) (re w τ)=_:=xJ [c0];rw[hst]at e1;have e2:ay X.P true (G fr (up++base)) (re w τ)=_:=xJ base;have eG:fr.roundOf.isSome->up++base≠[]:=λh=>by
    have nu:up≠[]:=λhu=>by
     subst hu;rw[hB fr (by simp)]at h;cases h
    simp[nu]
   have Ot:fr.mode=.run\/fr.defers≠[]\/up++base≠[]:=hgo.imp id (λh=>h.imp id λh=>by simp[h]);obtain⟨e3,jc6⟩:=q1y S (cs:=up++base) hf pE true eG Ot _ _ _ e2 wc.tape (w.drawn,d) qE;rw[Nv]at e3;have e3:ay X.P true (G fr (up++base)) (wc.at d)=_:=e3;have out:=G8 S (base:=base) (base':=base) hf hu pE hn hB hgo true true;rw[oq,e3,e2]at out;generalize hg:GStep.go (G jo (up1++base)) w1 es=s at out;cases out with
   | @nice f1 Nu u1 JA ρ1 x1 Jy gH LY e h1 h2 h3 h4 h5 h6 h7 h8=>
    have oo:jo=f1/\up1++base=u1++base/\w1=x1:=by
     injection hg with a b c;injection a with a1 a2;exact⟨a1,a2,b⟩
    obtain⟨rfl,pF,rfl⟩:=oo;obtain rfl:=aF pF;have M5:jo=Nu/\up1++base=JA++base/\shf wc.tape (w.drawn,d) w1=Jy/\es=LY:=by
     injection e with a b c;injection a with a1 a2;exact⟨a1,a2,b,c⟩
    obtain⟨rfl,sO,rfl,rfl⟩:=M5;obtain rfl:=aF sO;have pY:nf τ=jo/\nc τ=up1++[c0]/\nw τ=w1:=by
     injection e1 with a b c;injection a with a1 a2;exact⟨a1,a2,b⟩
    exact⟨jo,up1,w1,ρ1,es,e3,⟨τ,ha,pY.1.symm,pY.2.1.symm,pY.2.2.symm⟩,h1,h2,h3,h4.le,h7,h8,Ew pE h4 h3 h6⟩
   |special k1 k2=>cases k2
   | @panic f1 u1 ch x1 gH h1 h2=>
    exfalso;have oo:jo={f1 with mode:=.panicking ch}/\up1++base=u1++base/\w1=x1:=by
     injection hg with a b c;injection a with a1 a2;exact⟨a1,a2,b⟩
    obtain⟨rfl,pF,rfl⟩:=oo;obtain rfl:=aF pF;have pY:nf τ={f1 with mode:=.panicking ch}/\nc τ=up1++[c0]/\nw τ=w1:=by
     injection e1 with a b c;injection a with a1 a2;exact⟨a1,a2,b⟩
    have uD:=hm τ ha;rw[pY.1,pY.2.1,pY.2.2]at uD;exact AP hQ uD trivial ⟨_,rfl⟩ (.inl ⟨_,rfl,h1,h2⟩)
   |ended=>cases hg
  ·exact absurd hst (xJ _ _ _ _)
 ·exfalso;have nu:up=[]:=aX λh=>hgo (.inr (.inr h));subst nu;obtain⟨h1,h2,h3⟩:=Hu S hf pE hn (λh=>hgo (h.imp id .inl)) hst;exact AP hQ (hm τ ha) h1 h2 h3
inductive Ah (n:Nat):List Item->Prop
 |a (r:List Item):Ah n (.code (.block n .skip)::.inLoop (.block n .skip)::r)
 |b (r:List Item):Ah n (.code .skip::.inBlock n::.inLoop (.block n .skip)::r)
 |c (r:List Item):Ah n (.inBlock n::.inLoop (.block n .skip)::r)
 |d (r:List Item):Ah n (.inLoop (.block n .skip)::r)
def wG (k:List Item) (Q:ao->List ao->ag->Prop):Prop:= ∀fr cs w,Q fr cs w->cs=[c0]/\(fr.mode=.returning\/(fr.mode=.run/\∃k',fr.todo=st k'/\(k'=k\/∃id,aO id k=some k')))
theorem wG.mode (h:wG k Q):∀fr cs w,Q fr cs w->∀ch,fr.mode≠.panicking ch:=λfr cs w hq ch e=>by
 rcases(h _ _ _ hq).2 with h|⟨h,_⟩<;>rw[e]at h<;>cases h
theorem Y0 (hQ:wG k Q):∀{fr:ao} {cs:List ao} {w:ag},lN X.P Q fr cs w->fr.mode=.run->Ah n fr.todo->False:=by
 intro fr cs w h;induction h with
 | @done fr cs w hq=>
  intro hm hl;rcases(hQ _ _ _ hq).2 with h|⟨_,k',h,_⟩
  ·rw[hm]at h;cases h
  ·rw[h,sG]at hl;cases hl
 | @step fr cs w nf nc nw ne hs _ ih=>
  intro hm hl;have h1:ay X.P true (G fr cs) w=.go (G (nf w.tape) (nc w.tape)) (nw w.tape) (ne w.tape):=hs w.tape (λ_ _ _=>rfl);rw[yx _ _ _ _ _ hm]at h1;have fin:∀{t:List Item},aq X.P true true fr cs none w=.go (G (wt fr t) cs) w #[]->Ah n t->False:=λ{t} e sU=>by
   rw[e]at h1;injection h1 with h1 _ _;injection h1 with h1 _;refine ih w.tape (λ_ _ _=>rfl) ?_ ?_
   ·rw[<-h1];exact hm
   ·rw[<-h1];exact sU
  obtain⟨fn,tmps,todo,defers,mode,kind,ro⟩:=fr;change Ah n todo at hl;cases hl with
  |a r=>exact fin rfl (.b r)
  |b r=>exact fin rfl (.c r)
  |c r=>exact fin rfl (.d r)
  |d r=>exact fin rfl (.a r)
theorem Sc (hQ:wG k Q) {k':List Item} (h:lN X.P Q (wt f (st k')) cs w) (hm:f.mode=.run):Q (wt f (st k')) cs w:=by
 generalize jJ:wt f (st k')=fr at h;cases h with
 |done hq=>exact hq
 |step nf nc nw ne hs hn=>
  exfalso;have h1:ay X.P true (G fr cs) w=.go (G (nf w.tape) (nc w.tape)) (nw w.tape) (ne w.tape):=hs w.tape (λ_ _ _=>rfl);subst jJ;rw[yx _ _ _ _ _ (show(wt f (st k')).mode=.run from hm),sG]at h1;have e:aq X.P true true (wt f (stop k'.length::sf k')) cs none w=.go (G (wt f (.code (.block k'.length .skip)::.inLoop (.block k'.length .skip)::sf k')) cs) w #[]:=rfl;rw[e]at h1;injection h1 with h1 _ _;injection h1 with h1 _;refine Y0 hQ (n:=k'.length) (hn w.tape (λ_ _ _=>rfl)) ?_ ?_
  ·rw[<-h1];exact hm
  ·rw[<-h1];exact .a _
theorem YJ (hQ:wG k Q) (h:lN X.P Q (wt f (.inRegion #[o] []::st k)) cs w) (hm:f.mode=.run):Q (wt f (st k)) cs w:=by
 generalize jJ:wt f (.inRegion #[o] []::st k)=fr at h;cases h with
 |done hq=>
  exfalso;subst jJ;rcases(hQ _ _ _ hq).2 with h|⟨_,k',h,_⟩
  ·have h:f.mode=.returning:=h;rw[hm]at h;cases h
  ·have h:Item.inRegion #[o] []::st k=st k':=h;rw[sG k']at h;injection h with h _;cases h
 |step nf nc nw ne hs hn=>
  have h1:ay X.P true (G fr cs) w=.go (G (nf w.tape) (nc w.tape)) (nw w.tape) (ne w.tape):=hs w.tape (λ_ _ _=>rfl);subst jJ;rw[yx _ _ _ _ _ (show(wt f (.inRegion #[o] []::st k)).mode=.run from hm)]at h1;have e:aq X.P true true (wt f (.inRegion #[o] []::st k)) cs none w=.go (G (wt f (st k)) cs) w #[]:=rfl;rw[e]at h1;injection h1 with h1 h2 _;injection h1 with h1 h3;have:=hn w.tape (λ_ _ _=>rfl);rw[<-h1,<-h2,<-h3]at this;exact Sc hQ this hm
end
end Ph
end Go.Proofs.YtkpekiajdlolnaaGreat
