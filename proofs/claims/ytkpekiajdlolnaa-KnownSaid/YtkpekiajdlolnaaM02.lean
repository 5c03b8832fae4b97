/- PROVED: part 2 of the claim's ground. Conditions: those that each theorem names. -/
import Derived.Test.YtkpekiajdlolnaaM01
import Derived.Conc.WgGenN3
import Derived.Conc.CrowdStepW
import Derived.Conc.CrowdStepC2
import Derived.Test.YtkpekiajdlolnaaChecked
set_option linter.unusedVariables false
set_option linter.unusedSimpArgs false
set_option maxRecDepth 100000
set_option maxHeartbeats 16000000
variable{A:Go.Goroutine->Go.World->Prop} {B Wg i j n r:Nat} {a' g g':Go.Goroutine} {cs up:List Go.Frame} {e:Go.Event} {es:Array Go.Event} {f fr dY:Go.Frame} {fn:Go.FuncId} {k l t':List Go.Item} {o:Go.Oper} {ops:Array Go.Oper} {t:Go.Trace} {td:List Nat} {w w':Go.World} {δ:Nat×Nat} {ρ:Go.Proofs.Ytkpekiajdlolnaa.Sim.Rel}
open Go.Proofs.Try
open Go renaming Goroutine→aa,World→ae,undef→ag,Frame→ai,stepG→au,Program→aw,deafBehind→ax,Trace→aB,exitTo→aE,TypeId→aJ,FuncId→aK,Value→aL,Event→bi,HappensBefore→bB,yielded→bL,GStep→bZ,execOp→ca,setCell_eq_setRow→ce
open Go.Conc renaming stepG_region_end→ac,stepG_seq→ah,mem_ofEvents→ak,stepG_skip→aG,aside_setCell→aI,getElem?_append_cases→aS,stepG_ret'→aV,runT_crowd_go→bj,Leavers→bk,Deaf_other→bp,woken_quitsD→bD,stepG_load_atomic→bJ,touch_of→bT,ofEvent_cell0→bY
open Go.MemAct renaming ofEvent→aj,touch?→aM
open Go.ConcN renaming upd_same→al,upd_ne→ay,get_map_set→bg,WgLive→bm,get_map_set_same→bq,PayAt→bX
open Go.stepG renaming exec→am,apply→aN,oper→aW
open Option renaming map_eq_some_iff→ao,getD_some→bO,map_some→bR
open Nat renaming not_lt_zero→aq,eq_zero_or_pos→aQ,le_of_lt→bE,le_succ_of_le→cf,le_of_not_lt→cn,lt_irrefl→cw,lt_or_ge→cA
open Go.MemOp renaming ofEvents→av
open Go.Conc.Goes renaming cases→az,stop→aD,step→cj
open List renaming append_cancel_right→aA,append_assoc→aU,mem_toArray→aX,mem_singleton→aY,length→cr
open Option.some renaming injEq→aC
open Array renaming getElem?_eq_getElem→aF,mem_of_getElem?→bd,getElem?_push_lt→bo,getElem?_map→bF,mem_append→bQ
open Bool renaming false_eq_true→aH,and_eq_true→bz,not_true→bN
open Go.GStep renaming after→aO
open Go.Region renaming wanted→aP
open Prod.Lex renaming right→aR,left→ba
open Classical renaming byContradiction→aT
open Go.Sem renaming runT_fst→aZ,runT→bU
open Go.ConcN.RW renaming refl→bh
open Go.Instr renaming beginRound→br,enterLoop→bC,takeDeferred→bI,endLoop→bM,endRound→bV
open Go.Frame renaming eval→bw,raise→cq,enter→cG
open Go.CallKind renaming wrapped→bA,early→bH
open Go.Kernel renaming perform→bG
open Go.Trace renaming g?→bP
namespace Go.Proofs.Ytkpekiajdlolnaa
namespace Ph
section
open Go Go.Conc Go.ConcN Go.RowKit Go.Conc.Lib Go.ConcR.Gen Go.ConcN.Gen Sim
open Go.ConcR (KK wgBlock WgAt stA smA rd wr mk DC0)
section
variable {L:WgLink}
structure RM (ty:aJ) (Wg:Nat) (F:Blocks) (w w1:ae):Prop where
 ext:Ext F w w1
 live:bm ty Wg w->bm ty Wg w1
theorem qb {ty:aJ} {F:Blocks} {w1:ae} (h:bm ty Wg w) (r:RM ty Wg F w w1):bm ty Wg w1:=r.live h
theorem y5 {ty:aJ} {F:Blocks} (a b c:ae) (h:RM ty Wg F a b) (k:RM ty Wg F b c):RM ty Wg F a c:=⟨h.ext.trans k.ext,k.live∘h.live⟩
section
variable (P:aw) (ty:aJ) (Wg:Nat) (F:Blocks)
def MG (Stop:aa->ae->Prop) (g:aa) (w:ae):Prop:= ∃m,Goes P true (RM ty Wg F) DC0 Stop m g w
def iA (m:Mark) (K:aa->ae->Prop) (g:aa) (w:ae):Prop:=
 g.status=.running/\∃g',au P true g w=.go g' w #[mk m]/\K g' w
def uX (K:aa->ae->Prop) (g:aa) (w:ae):Prop:=
 g.status=.running/\∀v:Nat,v<2147483647->WgAt ty Wg w (v*KK) 0->
  ∃g',au P true g w=.go g' (w.setCell (stA Wg) (.int .u64 ((v+1)*KK))) #[rd (stA Wg),wr (stA Wg)]/\
   ((v=0/\MG P ty Wg F (iA P (.read (smA Wg)) (MG P ty Wg F (iA P .enable K))) g' (w.setCell (stA Wg) (.int .u64 ((v+1)*KK))))\/
    (v≠0/\MG P ty Wg F (iA P .enable K) g' (w.setCell (stA Wg) (.int .u64 ((v+1)*KK)))))
end
section
variable (P:aw) (ty:aJ) (Wg:Nat) (F:Blocks)
def BF (K:aa->ae->Prop):aa->ae->Prop:=MG P ty Wg F (iA P .enable (MG P ty Wg F (iA P (.acquire (stA Wg)) K)))
def BG (K:aa->ae->Prop) (g:aa) (w:ae):Prop:=
 g.status=.running/\(WgAt ty Wg w 0 0->∃g',au P true g w=.go g' w #[rd (stA Wg)]/\BF P ty Wg F K g' w)
def wM (K:aa->ae->Prop) (g:aa) (w:ae):Prop:=
 g.status=.running/\g.offers=none/\((∃st,WgAt ty Wg w st 0)->au P true g w=.go {g with status:=.blocked} w #[])/\
  (WgAt ty Wg w 0 1->∃g',au P true g w=.go g' (w.setCell (smA Wg) (.int .u32 0)) (semEvents (smA Wg))/\MG P ty Wg F (BG P ty Wg F K) g' (w.setCell (smA Wg) (.int .u32 0)))
def BH (A:aa->ae->Prop) (K:aa->ae->Prop) (vs:Nat) (g:aa) (w:ae):Prop:=
 g.status=.running/\∀v:Nat,v<2147483648->WgAt ty Wg w (v*KK) 0->
  (v=vs->∃g',au P true g w=.go g' (w.setCell (stA Wg) (.int .u64 (v*KK+1))) #[rd (stA Wg),wr (stA Wg)]/\MG P ty Wg F (iA P (.write (smA Wg)) (MG P ty Wg F (wM P ty Wg F K))) g' (w.setCell (stA Wg) (.int .u64 (v*KK+1))))/\
  (v≠vs->∃g',au P true g w=.go g' w #[rd (stA Wg)]/\MG P ty Wg F A g' w)
def pK (A:aa->ae->Prop) (K:aa->ae->Prop) (g:aa) (w:ae):Prop:=
 g.status=.running/\∀v:Nat,v<2147483648->WgAt ty Wg w (v*KK) 0->∃g',au P true g w=.go g' w #[rd (stA Wg)]/\
  (v=0->BF P ty Wg F K g' w)/\(v≠0->MG P ty Wg F (BH P ty Wg F A K v) g' w)
end
def Anch (L:WgLink) (Wg:Nat) (c:ai) (cs:List ai) (g:aa) (w:ae):Prop:=
 ∃T:Array aL,g=G ((base L.wait).at ⟨T,[]⟩ [.code (L7 L),.inLoop (L7 L),.inBlock 0]) (c::cs)/\T.size=84/\T[0]?=some (.pointer (some ⟨Wg,0,none⟩))/\bm L.tWg Wg w
section
variable {P:aw} {Wg:Nat} {F:Blocks} {b₀:ai} {a₀:Act} {ops₀:Array Oper} {i₀:Nat} {rest₀:List Nat} {k₀:List Item} {cs:List ai}
theorem add1 (H:WgLib P L) {K:aa->ae->Prop} {mT:Nat}
  (hT:∀w,bm L.tWg Wg w->Goes P true (RM L.tWg Wg F) DC0 K mT (G (b₀.at (a₀.put ((ops₀[i₀]?).bind (·.dst)) (.tuple #[])) (.inRegion ops₀ rest₀::k₀)) cs) w)
  (w:ae) (hF:bm L.tWg Wg w):
  MG P L.tWg Wg F (iA P .disable (MG P L.tWg Wg F (uX P L.tWg Wg F (MG P L.tWg Wg F K))))
   (G ((base L.add).at ⟨#[.pointer (some ⟨Wg,0,none⟩),.int .i64 1,ag,ag,ag,ag,ag,ag,ag,ag,ag,ag,ag,ag,ag,ag,ag,ag,ag,ag,ag,ag,ag,ag,ag,ag,ag,ag,ag,ag,ag,ag,ag,ag,ag,ag,ag,ag,ag,ag,ag,ag,ag,ag,ag,ag,ag,ag,ag,ag,ag,ag,ag,ag,ag,ag,ag,ag,ag,ag,ag,ag,ag,ag,ag,ag,ag,ag,ag,ag,ag,ag,ag,ag,ag,ag,ag,ag,ag,ag,ag,ag,ag,ag,ag,ag,ag,ag,ag,ag,ag,ag,ag,ag,ag,ag,ag,ag,ag,ag,ag,ag,ag,ag,ag,ag,ag,ag,ag,ag,ag,ag,ag,ag,ag,ag,ag],[]⟩ [.code (body_add L)]) (b₀.at a₀ (.inRegion ops₀ (i₀::rest₀)::k₀)::cs)) w:=by
 lib_facts
 simp only[body_add,addFn,bO];refine⟨40,?_⟩
 u_c ah qb hF
 u_cond true qb hF
 u_c ah qb hF
 u_c ah qb hF
 u_reg qb hF
 u_op qb hF
 u_op qb hF
 u_c ac qb hF
 u_cond false qb hF
 u_c aG qb hF
 u_c ah qb hF
 u_reg qb hF
 refine aD (λw1 h1=>?_);replace hF:=qb hF h1;clear h1;refine⟨rfl,_,stepG_mark0 .disable (by simp) rfl rfl (by k_ne) rfl H.f_disable (x_disable_n L) (x_disable_b L) (x_disable_x L) (x_disable_f L),60,?_⟩
 walk_nrm
 u_c ac qb hF
 u_reg qb hF
 u_defer qb hF
 u_c ac qb hF
 u_c ah qb hF
 u_reg qb hF
 u_op qb hF
 u_c ac qb hF
 u_c ah qb hF
 u_c ah qb hF
 u_reg qb hF
 u_bub qb hF
 u_c ac qb hF
 u_cond false qb hF
 u_c aG qb hF
 u_c ah qb hF
 u_reg qb hF
 u_op qb hF
 u_op qb hF
 u_op qb hF
 u_op qb hF
 u_op qb hF
 u_op qb hF
 u_call H.f_uAdd (nm_uAdd L) uAddFn qb hF
 u_c ah qb hF
 u_reg qb hF
 u_op qb hF
 u_c ac qb hF
 u_c ah qb hF
 u_reg qb hF
 u_op qb hF
 u_op qb hF
 u_op qb hF
 u_op qb hF
 refine aD (λw2 h2=>?_);replace hF:=qb hF h2;clear h2;refine⟨rfl,λv hv hw=>?_⟩;rcases aQ v with rfl|hvp
 ·replace hw:WgAt L.tWg Wg w2 0 0:=by simpa using hw
  have z:(((0:Nat):Int)+1)*KK=KK:=by simp
  rw[z];have e0:IntKind.u64.wrap (0+4294967296)=KK:=by decide
  refine⟨_,(stepG_add_atomic rfl rfl (by k_ne) rfl H.f_addU64 (x_addU64_n L) (x_addU64_b L) (x_addU64_x L) .u64 (x_addU64_f L) rfl rfl hw.cellSt (hw.thaw 0)).trans (by rw[e0];rfl),.inl ⟨rfl,120,?_⟩⟩;replace hF:bm L.tWg Wg (w2.setCell (stA Wg) (.int .u64 KK)):=⟨_,_,hw.setSt _⟩
  clear hw;simp only[KK]at hF⊢
  walk_nrm
  u_op qb hF
  u_c ac qb hF
  u_c aV qb hF
  u_leave1 H.f_uAdd qb hF
  u_op qb hF
  u_c ac qb hF
  u_c ah qb hF
  u_c ah qb hF
  u_reg qb hF
  u_op qb hF
  u_op qb hF
  u_op qb hF
  u_op qb hF
  u_skip qb hF
  u_skip qb hF
  u_op qb hF
  u_c ac qb hF
  u_cond false qb hF
  u_c aG qb hF
  u_c ah qb hF
  u_reg qb hF
  u_op qb hF
  u_op qb hF
  u_op qb hF
  u_op qb hF
  u_c ac qb hF
  u_c ah qb hF
  u_reg qb hF
  u_op qb hF
  u_op qb hF
  u_op qb hF
  u_op qb hF
  u_c ac qb hF
  u_c ah qb hF
  u_c ah qb hF
  u_reg qb hF
  u_op qb hF
  u_op qb hF
  u_op qb hF
  u_op qb hF
  u_op qb hF
  u_op qb hF
  u_op qb hF
  u_op qb hF
  u_op qb hF
  u_op qb hF
  u_c ac qb hF
  u_cond true qb hF
  u_reg qb hF
  u_op qb hF
  u_op qb hF
  u_op qb hF
  u_conv H.underlying_tPU32 H.room_tU32 (WgLive.cell1 hF).choose_spec qb hF
  refine aD (λw3 h3=>?_);replace hF:=qb hF h3;clear h3;refine⟨rfl,_,stepG_markAt .read (by simp) rfl rfl (by k_ne) rfl H.f_raceRead (x_raceRead_n L) (x_raceRead_b L) (x_raceRead_x L) (x_raceRead_f L) (ad:=⟨Wg,1,none⟩) (by simp[Act.eval]),120,?_⟩
  walk_nrm
  u_c ac qb hF
  u_c ah qb hF
  u_c ah qb hF
  u_reg qb hF
  u_op qb hF
  u_op qb hF
  u_c ac qb hF
  u_cond false qb hF
  u_c aG qb hF
  u_c ah qb hF
  u_c ah qb hF
  u_reg qb hF
  u_op qb hF
  u_op qb hF
  u_op qb hF
  u_skip qb hF
  u_skip qb hF
  u_op qb hF
  u_op qb hF
  u_skip qb hF
  u_skip qb hF
  u_skip qb hF
  u_skip qb hF
  u_op qb hF
  u_c ac qb hF
  u_cond false qb hF
  u_c aG qb hF
  u_c ah qb hF
  u_c ah qb hF
  u_reg qb hF
  u_op qb hF
  u_op qb hF
  u_op qb hF
  u_skip qb hF
  u_skip qb hF
  u_op qb hF
  u_c ac qb hF
  u_cond true qb hF
  u_c aV qb hF
  refine aD (λwq hq=>?_);replace hF:=qb hF hq;clear hq;refine⟨rfl,_,stepG_unwind_entry (v:=.tuple #[]) (evs:=#[mk .enable]) rfl H.f_enable (x_enable_n L) (x_enable_b L) (x_enable_x L) (x_enable_f L) (by simp[Extern.Race.none_]) (by simp[mk]) (by simp[mk]),?_⟩;refine⟨mT+1,?_⟩;exact cj rfl (λwq hq=>by
   refine goes_leave0 rfl rfl H.f_add rfl ⟨by u_nil,?_⟩
   exact hT _ (qb hF hq))
 ·obtain⟨V,hV⟩:∃V:Int,V=(v:Int)+1:=⟨_,rfl⟩
  obtain⟨S,hS⟩:∃S:Int,S=V*KK:=⟨_,rfl⟩
  have eS:IntKind.u64.wrap ((v:Int)*KK+4294967296)=S:=by rw[IntKind.wrap_u64,hS,hV];simp only[KK];omega
  rw[<-hV,<-hS];have a1:S/4294967296=V:=by rw[hS];simp only[KK];omega
  have b1:bits .and .u64 S 2147483648=0:=by rw[hS,hV];have:=st_flag (v+1) 0 (by omega) (by omega);simpa[KK]using this
  have b2:bits .and .u64 S 2147483647=0:=by rw[hS,hV];have:=st_waiters (v+1) 0 (by omega) (by omega);simpa[KK]using this
  have c1:IntKind.i32.wrap V=V:=by rw[IntKind.wrap_i32];omega
  have hV1:1<V:=by omega
  have hV2:V<2147483648:=by omega
  have q1:(V==1)=false:=by simp;omega
  have q2:decide (V=1)=false:=xdf (by omega);have q3:decide (V<0)=false:=xdf (by omega);have q4:decide (0<V)=true:=xdt (by omega);have q5:(V==0)=false:=by simp;omega
  have q6:decide (V=0)=false:=xdf (by omega);refine⟨_,(stepG_add_atomic rfl rfl (by k_ne) rfl H.f_addU64 (x_addU64_n L) (x_addU64_b L) (x_addU64_x L) .u64 (x_addU64_f L) rfl rfl hw.cellSt (hw.thaw 0)).trans (by rw[eS];rfl),.inr ⟨by omega,120,?_⟩⟩;replace hF:bm L.tWg Wg (w2.setCell (stA Wg) (.int .u64 S)):=⟨_,_,hw.setSt _⟩
  clear hw hS hV eS
  walk_nrm
  u_op qb hF
  u_c ac qb hF
  u_c aV qb hF
  u_leave1 H.f_uAdd qb hF
  u_op qb hF
  u_c ac qb hF
  u_c ah qb hF
  u_c ah qb hF
  u_reg qb hF
  u_op qb hF
  u_op qb hF
  u_op qb hF
  u_op qb hF
  u_skip qb hF
  u_skip qb hF
  u_op qb hF
  u_c ac qb hF
  u_cnd false qb hF
  u_c aG qb hF
  u_c ah qb hF
  u_reg qb hF
  u_op qb hF
  u_op qb hF
  u_op qb hF
  u_op qb hF
  u_c ac qb hF
  u_c ah qb hF
  u_reg qb hF
  u_op qb hF
  u_op qb hF
  u_op qb hF
  u_op qb hF
  u_c ac qb hF
  u_c ah qb hF
  u_c ah qb hF
  u_reg qb hF
  u_op qb hF
  u_op qb hF
  u_op qb hF
  u_op qb hF
  u_op qb hF
  u_op qb hF
  u_op qb hF
  u_op qb hF
  u_op qb hF
  u_op qb hF
  u_c ac qb hF
  u_cnd false qb hF
  u_c aG qb hF
  u_c ah qb hF
  u_c ah qb hF
  u_reg qb hF
  u_op qb hF
  u_op qb hF
  u_c ac qb hF
  u_cnd false qb hF
  u_c aG qb hF
  u_c ah qb hF
  u_c ah qb hF
  u_reg qb hF
  u_op qb hF
  u_op qb hF
  u_op qb hF
  u_skip qb hF
  u_skip qb hF
  u_op qb hF
  u_op qb hF
  u_skip qb hF
  u_skip qb hF
  u_skip qb hF
  u_skip qb hF
  u_op qb hF
  u_c ac qb hF
  u_cnd false qb hF
  u_c aG qb hF
  u_c ah qb hF
  u_c ah qb hF
  u_reg qb hF
  u_op qb hF
  u_op qb hF
  u_op qb hF
  u_skip qb hF
  u_skip qb hF
  u_op qb hF
  u_c ac qb hF
  u_cnd true qb hF
  u_c aV qb hF
  refine aD (λwq hq=>?_);replace hF:=qb hF hq;clear hq;refine⟨rfl,_,stepG_unwind_entry (v:=.tuple #[]) (evs:=#[mk .enable]) rfl H.f_enable (x_enable_n L) (x_enable_b L) (x_enable_x L) (x_enable_f L) (by simp[Extern.Race.none_]) (by simp[mk]) (by simp[mk]),?_⟩;refine⟨mT+1,?_⟩;exact cj rfl (λwq hq=>by
   refine goes_leave0 rfl rfl H.f_add rfl ⟨by u_nil,?_⟩
   exact hT _ (qb hF hq))
theorem waitRound (H:WgLib P L) {K:aa->ae->Prop} {mT:Nat}
  (hT:∀w,bm L.tWg Wg w->Goes P true (RM L.tWg Wg F) DC0 K mT (G (b₀.at (a₀.put ((ops₀[i₀]?).bind (·.dst)) (.tuple #[])) (.inRegion ops₀ rest₀::k₀)) cs) w)
  (g:aa) (w:ae) (h:Anch L Wg (b₀.at a₀ (.inRegion ops₀ (i₀::rest₀)::k₀)) cs g w):
  MG P L.tWg Wg F (pK P L.tWg Wg F (Anch L Wg (b₀.at a₀ (.inRegion ops₀ (i₀::rest₀)::k₀)) cs) (MG P L.tWg Wg F K)) g w:=by
 lib_facts
 obtain⟨T,rfl,OL,t0,hF⟩:=h;obtain⟨v0,v1,v2,v3,v4,v5,v6,v7,v8,v9,v10,v11,v12,v13,v14,v15,v16,v17,v18,v19,v20,v21,v22,v23,v24,v25,v26,v27,v28,v29,v30,v31,v32,v33,v34,v35,v36,v37,v38,v39,v40,v41,v42,v43,v44,v45,v46,v47,v48,v49,v50,v51,v52,v53,v54,v55,v56,v57,v58,v59,v60,v61,v62,v63,v64,v65,v66,v67,v68,v69,v70,v71,v72,v73,v74,v75,v76,v77,v78,v79,v80,v81,v82,v83,rfl⟩:=array84 T OL;simp only[List.getElem?_toArray,List.getElem?_cons_zero,aC]at t0;subst t0;refine⟨30,?_⟩;simp only[L7,body_wait,waitFn,bO]
 u_c stepG_block qb hF
 u_c ah qb hF
 u_reg qb hF
 u_op qb hF
 u_op qb hF
 u_op qb hF
 u_call H.f_uLoad (nm_uLoad L) uLoadFn qb hF
 u_c ah qb hF
 u_reg qb hF
 u_op qb hF
 u_c ac qb hF
 u_c ah qb hF
 u_reg qb hF
 u_op qb hF
 u_op qb hF
 u_op qb hF
 refine aD (λw1 h1=>?_);replace hF:=qb hF h1;clear h1;refine⟨rfl,λv hv hw=>?_⟩;rcases aQ v with rfl|hvp
 ·replace hw:WgAt L.tWg Wg w1 0 0:=by simpa using hw
  refine⟨_,bJ (v:=0) rfl rfl (by k_ne) rfl H.f_loadU64 (x_loadU64_n L) (x_loadU64_b L) (x_loadU64_x L) .u64 (x_loadU64_f L) rfl hw.cellSt,λ_=>⟨60,?_⟩,λh=>absurd rfl h⟩;clear hw
  walk_nrm
  u_op qb hF
  u_c ac qb hF
  u_c aV qb hF
  u_leave1 H.f_uLoad qb hF
  u_op qb hF
  u_c ac qb hF
  u_c ah qb hF
  u_reg qb hF
  u_op qb hF
  u_op qb hF
  u_op qb hF
  u_op qb hF
  u_c ac qb hF
  u_c ah qb hF
  u_reg qb hF
  u_op qb hF
  u_op qb hF
  u_op qb hF
  u_op qb hF
  u_c ac qb hF
  u_c ah qb hF
  u_c ah qb hF
  u_reg qb hF
  u_op qb hF
  u_op qb hF
  u_c ac qb hF
  u_cond true qb hF
  u_c ah qb hF
  u_cond true qb hF
  u_c ah qb hF
  u_reg qb hF
  refine aD (λw5 h5=>?_);replace hF:=qb hF h5;clear h5;refine⟨rfl,_,stepG_mark0 .enable (by simp) rfl rfl (by k_ne) rfl H.f_enable (x_enable_n L) (x_enable_b L) (x_enable_x L) (x_enable_f L),12,?_⟩
  walk_nrm
  u_c ac qb hF
  u_reg qb hF
  u_op qb hF
  u_conv H.underlying_tWgP H.room_tWg (WgLive.cell0 hF).choose_spec qb hF
  refine aD (λw6 h6=>?_);replace hF:=qb hF h6;clear h6;refine⟨rfl,_,stepG_markAt (.acquire) (by simp) rfl rfl (by k_ne) rfl H.f_acquire (x_acquire_n L) (x_acquire_b L) (x_acquire_x L) (x_acquire_f L) (by simp[Act.eval,stA]),?_⟩;refine⟨mT+1+19,?_⟩
  walk_nrm
  u_c ac qb hF
  u_c ah qb hF
  u_c ah qb hF
  u_reg qb hF
  u_op qb hF
  u_op qb hF
  u_op qb hF
  u_op qb hF
  u_op qb hF
  u_op qb hF
  u_op qb hF
  u_op qb hF
  u_skip qb hF
  u_skip qb hF
  u_op qb hF
  u_c ac qb hF
  u_cond false qb hF
  u_c aG qb hF
  u_c aV qb hF
  exact cj rfl (λwq hq=>by
   refine goes_leave0 rfl rfl H.f_wait rfl ⟨by u_nil,?_⟩
   exact hT _ (qb hF hq))
 ·obtain⟨S,hS⟩:∃S:Int,(v:Int)*KK=S:=⟨_,rfl⟩
  have a1:S/4294967296=(v:Int):=by rw[<-hS];simp only[KK];omega
  have b1:bits .and .u64 S 2147483648=0:=by rw[<-hS];have:=st_flag v 0 (by omega) (by omega);simpa[KK]using this
  have b2:bits .and .u64 S 2147483647=0:=by rw[<-hS];have:=st_waiters v 0 (by omega) (by omega);simpa[KK]using this
  have c1:IntKind.i32.wrap (v:Int)=(v:Int):=by rw[IntKind.wrap_i32];omega
  have fQ:IntKind.u64.wrap (S+1)=S+1:=by rw[IntKind.wrap_u64,<-hS];simp only[KK];omega
  have q3:decide ((v:Int)<0)=false:=xdf (by omega);have q4:decide (0<(v:Int))=true:=xdt (by omega);have q5:((v:Int)==0)=false:=by simp;omega
  have q6:decide ((v:Int)=0)=false:=xdf (by omega);rw[hS]at hw;refine⟨_,bJ (v:=S) rfl rfl (by k_ne) rfl H.f_loadU64 (x_loadU64_n L) (x_loadU64_b L) (x_loadU64_x L) .u64 (x_loadU64_f L) rfl hw.cellSt,λh0=>absurd h0 (by omega),λ_=>⟨60,?_⟩⟩;clear hw
  walk_nrm
  u_op qb hF
  u_c ac qb hF
  u_c aV qb hF
  u_leave1 H.f_uLoad qb hF
  u_op qb hF
  u_c ac qb hF
  u_c ah qb hF
  u_reg qb hF
  u_op qb hF
  u_op qb hF
  u_op qb hF
  u_op qb hF
  u_c ac qb hF
  u_c ah qb hF
  u_reg qb hF
  u_op qb hF
  u_op qb hF
  u_op qb hF
  u_op qb hF
  u_c ac qb hF
  u_c ah qb hF
  u_c ah qb hF
  u_reg qb hF
  u_op qb hF
  u_op qb hF
  u_c ac qb hF
  u_cnd false qb hF
  u_c aG qb hF
  u_c ah qb hF
  u_reg qb hF
  u_op qb hF
  u_op qb hF
  u_op qb hF
  u_op qb hF
  u_op qb hF
  u_op qb hF
  u_call H.f_uCas (nm_uCas L) uCasFn qb hF
  u_c ah qb hF
  u_reg qb hF
  u_op qb hF
  u_c ac qb hF
  u_c ah qb hF
  u_reg qb hF
  u_op qb hF
  u_op qb hF
  u_op qb hF
  u_op qb hF
  u_op qb hF
  refine aD (λw2 h2=>?_);replace hF:=qb hF h2;clear h2;refine⟨rfl,λv' JO hw=>⟨λe=>?_,λe=>?_⟩⟩
  ·subst e;rw[hS]at hw⊢;refine⟨_,(stepG_cas_hit (v:=S) (n:=S+1) rfl rfl (by k_ne) rfl H.f_casU64 (x_casU64_n L) (x_casU64_b L) (x_casU64_x L) .u64 (x_casU64_f L) rfl rfl rfl hw.cellSt (hw.thaw 0)).trans (by rfl),40,?_⟩;replace hF:bm L.tWg Wg (w2.setCell (stA Wg) (.int .u64 (S+1))):=⟨_,_,hw.setSt _⟩
   clear hw
   walk_nrm
   u_op qb hF
   u_c ac qb hF
   u_c aV qb hF
   u_leave1 H.f_uCas qb hF
   u_c ac qb hF
   u_cond true qb hF
   u_c ah qb hF
   u_c ah qb hF
   u_reg qb hF
   u_op qb hF
   u_op qb hF
   u_op qb hF
   u_op qb hF
   u_c ac qb hF
   u_cond true qb hF
   u_reg qb hF
   u_op qb hF
   u_op qb hF
   u_op qb hF
   u_conv H.underlying_tPU32 H.room_tU32 (WgLive.cell1 hF).choose_spec qb hF
   refine aD (λw3 h3=>?_);replace hF:=qb hF h3;clear h3;refine⟨rfl,_,stepG_markAt .write (by simp) rfl rfl (by k_ne) rfl H.f_raceWrite (x_raceWrite_n L) (x_raceWrite_b L) (x_raceWrite_x L) (x_raceWrite_f L) (ad:=⟨Wg,1,none⟩) (by simp[Act.eval]),40,?_⟩
   walk_nrm
   u_c ac qb hF
   u_c ah qb hF
   u_reg qb hF
   u_op qb hF
   u_c ac qb hF
   u_c ah qb hF
   u_c ah qb hF
   u_reg qb hF
   u_op qb hF
   u_op qb hF
   u_op qb hF
   u_op qb hF
   u_skip qb hF
   u_op qb hF
   u_c ac qb hF
   u_cond false qb hF
   u_c aG qb hF
   u_c ah qb hF
   u_reg qb hF
   u_op qb hF
   u_op qb hF
   u_op qb hF
   u_op qb hF
   refine aD (λw4 h4=>?_);replace hF:=qb hF h4;clear h4;refine⟨rfl,rfl,λ⟨st,hw⟩=>stepG_semacquire_wait rfl rfl rfl H.f_semacquire (x_semacquire_n L) (x_semacquire_b L) (x_semacquire_x L) (x_semacquire_f L) (by simp[Act.eval,smA]) hw.cellSm,λhf=>?_⟩;refine⟨_,(stepG_semacquire (n:=1) rfl rfl (by k_ne) rfl H.f_semacquire (x_semacquire_n L) (x_semacquire_b L) (x_semacquire_x L) (x_semacquire_f L) (by simp[Act.eval,smA]) hf.cellSm (by k_ne) (hf.thaw 1)).trans (by rfl),40,?_⟩;replace hF:bm L.tWg Wg (w4.setCell (smA Wg) (.int .u32 0)):=⟨_,_,hf.setSm 0⟩
   clear hf
   walk_nrm
   u_c ac qb hF
   u_c ah qb hF
   u_reg qb hF
   u_op qb hF
   u_op qb hF
   u_op qb hF
   u_call H.f_uLoad (nm_uLoad L) uLoadFn qb hF
   u_c ah qb hF
   u_reg qb hF
   u_op qb hF
   u_c ac qb hF
   u_c ah qb hF
   u_reg qb hF
   u_op qb hF
   u_op qb hF
   u_op qb hF
   refine aD (λw7 h7=>?_);replace hF:=qb hF h7;clear h7;refine⟨rfl,λhw=>⟨_,bJ (v:=0) rfl rfl (by k_ne) rfl H.f_loadU64 (x_loadU64_n L) (x_loadU64_b L) (x_loadU64_x L) .u64 (x_loadU64_f L) rfl hw.cellSt,40,?_⟩⟩;clear hw
   walk_nrm
   u_op qb hF
   u_c ac qb hF
   u_c aV qb hF
   u_leave1 H.f_uLoad qb hF
   u_op qb hF
   u_op qb hF
   u_c ac qb hF
   u_c ah qb hF
   u_cond true qb hF
   u_c ah qb hF
   u_reg qb hF
   refine aD (λw5 h5=>?_);replace hF:=qb hF h5;clear h5;refine⟨rfl,_,stepG_mark0 .enable (by simp) rfl rfl (by k_ne) rfl H.f_enable (x_enable_n L) (x_enable_b L) (x_enable_x L) (x_enable_f L),12,?_⟩
   walk_nrm
   u_c ac qb hF
   u_reg qb hF
   u_op qb hF
   u_conv H.underlying_tWgP H.room_tWg (WgLive.cell0 hF).choose_spec qb hF
   refine aD (λw6 h6=>?_);replace hF:=qb hF h6;clear h6;refine⟨rfl,_,stepG_markAt (.acquire) (by simp) rfl rfl (by k_ne) rfl H.f_acquire (x_acquire_n L) (x_acquire_b L) (x_acquire_x L) (x_acquire_f L) (by simp[Act.eval,stA]),?_⟩;refine⟨mT+1+9,?_⟩
   walk_nrm
   u_c ac qb hF
   u_c ah qb hF
   u_c ah qb hF
   u_reg qb hF
   u_op qb hF
   u_c ac qb hF
   u_cond false qb hF
   u_c aG qb hF
   u_c aV qb hF
   exact cj rfl (λwq hq=>by
    refine goes_leave0 rfl rfl H.f_wait rfl ⟨by u_nil,?_⟩
    exact hT _ (qb hF hq))
  ·refine⟨_,stepG_cas_miss (v:=(v':Int)*KK) (old:=S) (n:=S+1) rfl rfl (by k_ne) rfl H.f_casU64 (x_casU64_n L) (x_casU64_b L) (x_casU64_x L) .u64 (x_casU64_f L) rfl rfl rfl hw.cellSt (hw.thaw 0) (by rw[<-hS];simp only[KK];omega),20,?_⟩;clear hw
   walk_nrm
   u_op qb hF
   u_c ac qb hF
   u_c aV qb hF
   u_leave1 H.f_uCas qb hF
   u_c ac qb hF
   u_cond false qb hF
   u_c aG qb hF
   u_c stepG_inBlock qb hF
   u_c stepG_inLoop qb hF
   refine aD (λw3 h3=>?_);replace hF:=qb hF h3;exact⟨_,rfl,by simp,by simp,hF⟩
theorem waitStart (H:WgLib P L) {c:ai} (w:ae) (hF:bm L.tWg Wg w):
  MG P L.tWg Wg F (iA P .disable (MG P L.tWg Wg F (Anch L Wg c cs))) (G ((base L.wait).at ⟨#[.pointer (some ⟨Wg,0,none⟩),ag,ag,ag,ag,ag,ag,ag,ag,ag,ag,ag,ag,ag,ag,ag,ag,ag,ag,ag,ag,ag,ag,ag,ag,ag,ag,ag,ag,ag,ag,ag,ag,ag,ag,ag,ag,ag,ag,ag,ag,ag,ag,ag,ag,ag,ag,ag,ag,ag,ag,ag,ag,ag,ag,ag,ag,ag,ag,ag,ag,ag,ag,ag,ag,ag,ag,ag,ag,ag,ag,ag,ag,ag,ag,ag,ag,ag,ag,ag,ag,ag,ag,ag],[]⟩ [.code (body_wait L)]) (c::cs)) w:=by
 lib_facts
 simp only[body_wait,waitFn,bO];refine⟨6,?_⟩
 u_c ah qb hF
 u_cond true qb hF
 u_reg qb hF
 refine aD (λw1 h1=>?_);replace hF:=qb hF h1;clear h1;refine⟨rfl,_,stepG_mark0 .disable (by simp) rfl rfl (by k_ne) rfl H.f_disable (x_disable_n L) (x_disable_b L) (x_disable_x L) (x_disable_f L),6,?_⟩
 walk_nrm
 u_c ac qb hF
 u_c stepG_block qb hF
 u_c stepG_loop qb hF
 exact aD (λw2 h2=>⟨_,rfl,by simp,by simp,qb hF h2⟩)
end
end
end
section
open Go Go.Conc Go.ConcN Sim
def nP (t:aB) (l:Loc):Prop:= ∀i a,touchAt t i=some a->a.loc≠l
theorem nP.perm {l:Loc} (h:nP t l) (g:Nat):Perm t g l:=λi a ha e=>(h i a ha e).elim
theorem nP.jik {l:Loc} (h:nP t l) (g:Nat):PermW t g l:=λi a ha e _=>(h i a ha e).elim
section
variable {Sh:Loc->Prop} {Own Rd CP NJ:Nat->Loc->Prop} {t:aB} {j:Nat}
theorem CT.grow (h:CT Sh Own Rd t j) (ho:∀k l,CP k l->Own k l\/nP t l) (hr:∀k l,NJ k l->Rd k l\/nP t l)
  (so:∀k l,Own k l->CP k l) (sr:∀k l,Rd k l->NJ k l):CT Sh CP NJ t j:=
 ⟨h.quiet,λk k1 kj l hl=>(ho k l hl).elim (h.own k k1 kj l) (λf=>f.perm k),λk k1 kj l hl=>(hr k l hl).elim (h.rd k k1 kj l) (λf=>f.jik k),
  λl hs hl=>h.free l hs λk k1 kj=>⟨λx=>(hl k k1 kj).1 (so k l x),λx=>(hl k k1 kj).2 (sr k l x)⟩,λl hs hl=>h.mine l hs λk k1 kj x=>hl k k1 kj (so k l x),h.nr,h.gs⟩
end
theorem Rz (h:∀op∈t,mE B op.act) {a:Addr} (ha:B<=a.block):nP t (.cell a):=by
 intro i x hx e;obtain⟨op,dU,qP⟩:=bT hx;have hl:=h op (mem_of_getElem? dU) x qP;rw[e]at hl;exact cw _ (xll hl ha)
end
section
open Go Go.Conc Go.ConcN Sim
open Go.ConcR (KK WgAt stA smA rd wr mk Payload DC0)
def ug (B:Blocks):Loc->Prop
 |.cell a=>B a.block
 |.obj r=>B r
 |_=>False
def pM:Nat->Loc->Prop:=λ_ _=>False
section
variable [Payload] (P:aw) (ty:aJ) (Wg C n:Nat)
def Dx (qw:Nat->Blocks->aL->ae->Prop) (i:Nat) (F _O:Blocks) (g:aa) (w:ae):Prop:=
 g.status=.running/\∃v,qw i F v w/\∀w1,Ext F w w1->bX C n w1->bm ty Wg w1->
  ∃g',au P false g w1=.go g' (w1.setCell ⟨C,i,none⟩ v) #[⟨.cell ⟨C,i,none⟩,true,false⟩]/\
   ∃m,Goes P false (RW ty Wg C n 0 i) (DWs Wg pM pM C n (i+1)) (AtR0 P ty Wg C n 0 (i+1) v) m g' (w1.setCell ⟨C,i,none⟩ v)
def Script (qw:Nat->Blocks->aL->ae->Prop) (i:Nat) (F0:Blocks) (g:aa) (w:ae):Prop:=
 ∃F,(∀b,F b->F0 b)/\WG P false (Dx P ty Wg C n qw i) F (λ_=>False) g w
def AtGoM (qw:Nat->Blocks->aL->ae->Prop) (i:Nat) (F:Blocks) (Next:aa->ae->Prop) (g:aa) (w:ae):Prop:=
 g.status=.running/\∃g' child,au P true g w=.spawn g' child w #[]/\child.status=.running/\(bX C n w->Script P ty Wg C n qw i F child w)/\Next g' w
def Scr (qw:Nat->Blocks->aL->ae->Prop) (K:aa->ae->Prop):Nat->Blocks->Blocks->aa->ae->Prop
 |0,F,_,g,w=>g.status=.running/\(bm ty Wg w->∃A:aa->ae->Prop,(∀g w,A g w->g.status=.running)/\(∀g w,A g w->MG P ty Wg F (pK P ty Wg F A K) g w)/\MG P ty Wg F (iA P .disable (MG P ty Wg F A)) g w)
 |r+1,F,_,g,w=>g.status=.running/\(bm ty Wg w->MG P ty Wg F (iA P .disable (MG P ty Wg F (uX P ty Wg F (MG P ty Wg F (AtGoM P ty Wg C n qw (n-(r+1)) F λg' w=>WG P true (Scr qw K r) F (λ_=>False) g' w))))) g w)
end
structure WX where
 stage:Nat
 fuel:Nat
 deaf:Nat
 rank:Rank
 F:Blocks
 O:Blocks
 val:aL
section
variable [Payload] (P:aw) (ty:aJ) (Wg C n:Nat) (qw:Nat->Blocks->aL->ae->Prop)
inductive WS (i:Nat) (d:WX) (g:aa) (w:ae):Prop
 |own:d.stage=9->d.deaf=0->d.fuel=0->WGo P false (Dx P ty Wg C n qw i) d.rank d.F d.O g w->WS i d g w
 |lib:WSit P ty Wg C n pM pM 0 (i+1) d.val d.stage d.fuel d.deaf g w->qw i d.F d.val w->WS i d g w
inductive Tag where
 |wg (r:Nat)|kdS (r:Nat)|ad (r:Nat)|rs (r:Nat)|en (r:Nat)|gos (r:Nat)
 |kd|anch|ld|cs (vs:Nat)|ws|sm|blk|l2|en2|acq
inductive MS (K:aa->ae->Prop):Tag->Nat->Nat->Rank->Blocks->Blocks->aa->ae->Prop
 |wg {r:Nat} {rk:Rank} {F O:Blocks} {g:aa} {w:ae}:r<=n->WGo P true (Scr P ty Wg C n qw K r) rk F O g w->MS K (.wg r) 0 0 rk F O g w
 |kdS {r f:Nat} {F:Blocks} {g:aa} {w:ae}:r<n->Goes P true (RM ty Wg F) DC0 (iA P .disable (MG P ty Wg F (uX P ty Wg F (MG P ty Wg F (AtGoM P ty Wg C n qw (n-(r+1)) F λg' w=>WG P true (Scr P ty Wg C n qw K r) F (λ_=>False) g' w))))) f g w->MS K (.kdS r) f 0 .leaf F (λ_=>False) g w
 |ad {r f:Nat} {F:Blocks} {g:aa} {w:ae}:r<n->Goes P true (RM ty Wg F) DC0 (uX P ty Wg F (MG P ty Wg F (AtGoM P ty Wg C n qw (n-(r+1)) F λg' w=>WG P true (Scr P ty Wg C n qw K r) F (λ_=>False) g' w))) f g w->MS K (.ad r) f 1 .leaf F (λ_=>False) g w
 |rs {r f:Nat} {F:Blocks} {g:aa} {w:ae}:r<n->Goes P true (RM ty Wg F) DC0 (iA P (.read (smA Wg)) (MG P ty Wg F (iA P .enable (MG P ty Wg F (AtGoM P ty Wg C n qw (n-(r+1)) F λg' w=>WG P true (Scr P ty Wg C n qw K r) F (λ_=>False) g' w))))) f g w->MS K (.rs r) f 1 .leaf F (λ_=>False) g w
 |en {r f:Nat} {F:Blocks} {g:aa} {w:ae}:r<n->Goes P true (RM ty Wg F) DC0 (iA P .enable (MG P ty Wg F (AtGoM P ty Wg C n qw (n-(r+1)) F λg' w=>WG P true (Scr P ty Wg C n qw K r) F (λ_=>False) g' w))) f g w->MS K (.en r) f 1 .leaf F (λ_=>False) g w
 |gos {r f:Nat} {F:Blocks} {g:aa} {w:ae}:r<n->Goes P true (RM ty Wg F) DC0 (AtGoM P ty Wg C n qw (n-(r+1)) F λg' w=>WG P true (Scr P ty Wg C n qw K r) F (λ_=>False) g' w) f g w->MS K (.gos r) f 0 .leaf F (λ_=>False) g w
 |kd {f:Nat} {F:Blocks} {A:aa->ae->Prop} {g:aa} {w:ae}:(∀g w,A g w->g.status=.running)->(∀g w,A g w->MG P ty Wg F (pK P ty Wg F A K) g w)->Goes P true (RM ty Wg F) DC0 (iA P .disable (MG P ty Wg F A)) f g w->MS K .kd f 0 .leaf F (λ_=>False) g w
 |anch {f:Nat} {F:Blocks} {A:aa->ae->Prop} {g:aa} {w:ae}:(∀g w,A g w->g.status=.running)->(∀g w,A g w->MG P ty Wg F (pK P ty Wg F A K) g w)->Goes P true (RM ty Wg F) DC0 A f g w->MS K .anch f 1 .leaf F (λ_=>False) g w
 |ld {f:Nat} {F:Blocks} {A:aa->ae->Prop} {g:aa} {w:ae}:(∀g w,A g w->g.status=.running)->(∀g w,A g w->MG P ty Wg F (pK P ty Wg F A K) g w)->Goes P true (RM ty Wg F) DC0 (pK P ty Wg F A K) f g w->MS K .ld f 1 .leaf F (λ_=>False) g w
 |cs {vs f:Nat} {F:Blocks} {A:aa->ae->Prop} {g:aa} {w:ae}:(∀g w,A g w->g.status=.running)->(∀g w,A g w->MG P ty Wg F (pK P ty Wg F A K) g w)->Goes P true (RM ty Wg F) DC0 (BH P ty Wg F A K vs) f g w->MS K (.cs vs) f 1 .leaf F (λ_=>False) g w
 |ws {f:Nat} {F:Blocks} {g:aa} {w:ae}:Goes P true (RM ty Wg F) DC0 (iA P (.write (smA Wg)) (MG P ty Wg F (wM P ty Wg F K))) f g w->MS K .ws f 1 .leaf F (λ_=>False) g w
 |sm {f:Nat} {F:Blocks} {g:aa} {w:ae}:Goes P true (RM ty Wg F) DC0 (wM P ty Wg F K) f g w->MS K .sm (f+1) 1 .leaf F (λ_=>False) g w
 |blk {F:Blocks} {g:aa} {w:ae}:(∀w1,RM ty Wg F w w1->wM P ty Wg F K g w1)->MS K .blk 0 1 .leaf F (λ_=>False) {g with status:=.blocked} w
 |l2 {f:Nat} {F:Blocks} {g:aa} {w:ae}:Goes P true (RM ty Wg F) DC0 (BG P ty Wg F K) f g w->MS K .l2 f 1 .leaf F (λ_=>False) g w
 |en2 {f:Nat} {F:Blocks} {g:aa} {w:ae}:Goes P true (RM ty Wg F) DC0 (iA P .enable (MG P ty Wg F (iA P (.acquire (stA Wg)) K))) f g w->MS K .en2 f 1 .leaf F (λ_=>False) g w
 |acq {f:Nat} {F:Blocks} {g:aa} {w:ae}:Goes P true (RM ty Wg F) DC0 (iA P (.acquire (stA Wg)) K) f g w->MS K .acq f 0 .leaf F (λ_=>False) g w
end
section
variable [Payload]
section
variable {P:aw} {ty:aJ} {Wg C n:Nat} {qw:Nat->Blocks->aL->ae->Prop} {K:aa->ae->Prop} {tag:Tag} {f d:Nat} {rk:Rank} {F O:Blocks} {a:aa} {w w1:ae}
omit [Payload] in
theorem ja (w:ae):RM ty Wg F w w:=⟨Ext.refl ..,id⟩
theorem MS.rely (h:MS P ty Wg C n qw K tag f d rk F O a w) (r:RM ty Wg F w w1):MS P ty Wg C n qw K tag f d rk F O a w1:=by
 cases h with
 |wg h0 h=>exact .wg h0 (h.ext r.ext)
 |kdS h0 h=>exact .kdS h0 (h.rely y5 r)
 |ad h0 h=>exact .ad h0 (h.rely y5 r)
 |rs h0 h=>exact .rs h0 (h.rely y5 r)
 |en h0 h=>exact .en h0 (h.rely y5 r)
 |gos h0 h=>exact .gos h0 (h.rely y5 r)
 |kd h0 h1 h=>exact .kd h0 h1 (h.rely y5 r)
 |anch h0 h1 h=>exact .anch h0 h1 (h.rely y5 r)
 |ld h0 h1 h=>exact .ld h0 h1 (h.rely y5 r)
 |cs h0 h1 h=>exact .cs h0 h1 (h.rely y5 r)
 |ws h=>exact .ws (h.rely y5 r)
 |sm h=>exact .sm (h.rely y5 r)
 |blk h=>exact .blk λw2 r2=>h w2 (y5 _ _ _ r r2)
 |l2 h=>exact .l2 (h.rely y5 r)
 |en2 h=>exact .en2 (h.rely y5 r)
 |acq h=>exact .acq (h.rely y5 r)
omit [Payload] in
theorem rP {Stop:aa->ae->Prop} (hs:∀g w,Stop g w->g.status=.running) {n:Nat} {w:ae} (h:Goes P true (RM ty Wg F) DC0 Stop n g w):g.status=.running:=
 h.running hs w (ja w)
theorem q6g:∀(r:Nat) (F O:Blocks) (g:aa) (w:ae),Scr P ty Wg C n qw K r F O g w->g.status=.running:=by
 intro r F O g w h;cases r with
 |zero=>exact h.1
 |succ r=>exact h.1
omit [Payload] in
theorem KW {main:Bool} {Stop:Blocks->Blocks->aa->ae->Prop} (hs:∀F O g w,Stop F O g w->g.status=.running) {r:Rank} (h:WGo P main Stop r F O g w):g.status=.running:=by
 cases r with
 |leaf=>exact hs _ _ _ _ (h w (Ext.refl ..))
 |node f=>exact h.1
theorem MS.status (h:MS P ty Wg C n qw K tag f d rk F O a w):(a.status=.running/\tag≠.blk)\/(a.status=.blocked/\tag=.blk):=by
 cases h with
 |wg h0 h=>exact .inl ⟨KW (λF O g w x=>q6g _ F O g w x) h,by simp⟩
 |kdS h0 h=>exact .inl ⟨rP (λ_ _ x=>x.1) h,by simp⟩
 |ad h0 h=>exact .inl ⟨rP (λ_ _ x=>x.1) h,by simp⟩
 |rs h0 h=>exact .inl ⟨rP (λ_ _ x=>x.1) h,by simp⟩
 |en h0 h=>exact .inl ⟨rP (λ_ _ x=>x.1) h,by simp⟩
 |gos h0 h=>exact .inl ⟨rP (λ_ _ x=>x.1) h,by simp⟩
 |kd h0 h1 h=>exact .inl ⟨rP (λ_ _ x=>x.1) h,by simp⟩
 |anch h0 h1 h=>exact .inl ⟨rP h0 h,by simp⟩
 |ld h0 h1 h=>exact .inl ⟨rP (λ_ _ x=>x.1) h,by simp⟩
 |cs h0 h1 h=>exact .inl ⟨rP (λ_ _ x=>x.1) h,by simp⟩
 |ws h=>exact .inl ⟨rP (λ_ _ x=>x.1) h,by simp⟩
 |sm h=>exact .inl ⟨rP (λ_ _ x=>x.1) h,by simp⟩
 |blk h=>exact .inr ⟨rfl,rfl⟩
 |l2 h=>exact .inl ⟨rP (λ_ _ x=>x.1) h,by simp⟩
 |en2 h=>exact .inl ⟨rP (λ_ _ x=>x.1) h,by simp⟩
 |acq h=>exact .inl ⟨rP (λ_ _ x=>x.1) h,by simp⟩
theorem MS.wokenBy (h:MS P ty Wg C n qw K tag f d rk F O a w) (r:RM ty Wg F w w1) (g g':aa):
  ∃tag' f',MS P ty Wg C n qw K tag' f' d rk F O (woken P g g' w1 a) w1/\f'<=f+1/\(tag'=tag\/(tag=.blk/\tag'=.sm))/\(mayWake P g=true->g'.status=.running->tag'≠.blk):=by
 have h':=h.rely r;unfold Go.Conc.woken;split
 ·rcases h'.status with⟨hs,eD⟩|⟨_,rfl⟩
  ·exact⟨tag,f,by rw[again_running _ (.inl hs)];exact h',by omega,.inl rfl,λ_ _=>eD⟩
  ·cases h' with
   |blk hb=>
    have h3:=hb w1 (ja w1);exact⟨.sm,0+1,by rw[Go.ConcR.again_blocked h3.1 h3.2.1];exact .sm (aD hb),by omega,.inr ⟨rfl,rfl⟩,λ_ _=>by simp⟩
 ·rename_i hc;exact⟨tag,f,h',by omega,.inl rfl,λh1 h2=>absurd (by simp[h1,h2]) hc⟩
end
def xd (D:Nat->WX):Nat->WD:=λi=>⟨if(D i).stage=9 then 7 else(D i).stage,(D i).fuel,(D i).deaf⟩
def kK:Tag->Nat
 |.rs _|.en _|.gos _=>1
 |_=>0
def Iu:Tag->Prop
 |.wg _|.kdS _|.ad _|.rs _|.en _|.gos _|.kd|.anch|.ld|.cs _=>True
 |_=>False
def Kq:Tag->Prop
 |.ws|.sm|.blk=>True
 |_=>False
def Pm:Tag->Prop
 |.l2|.en2|.acq=>True
 |_=>False
inductive Mo (j:Nat) (D:Nat->WD):Tag->Int->Int->Prop
 |opn {tag:Tag}:Iu tag->OpenSt j D->(∀vs,tag=.cs vs->Vc j D<=vs/\1<=vs)->Mo j D tag (((Vc j D+kK tag:Nat):Int)*KK) 0
 |reg {tag:Tag}:Kq tag->OpenSt j D->1<=Vc j D->Mo j D tag (((Vc j D:Nat):Int)*KK+1) 0
 |last {tag:Tag} (L:Nat):Kq tag->L<j->((D L).stage=4\/(D L).stage=3\/(D L).stage=2)->(∀i,i<j->i≠L->(D i).stage=1)->Mo j D tag (if(D L).stage=2 then 0 else 1) 0
 |sema {tag:Tag}:(tag=.ws\/tag=.sm)->AllQuit j D->Mo j D tag 0 1
 |fin {tag:Tag}:Pm tag->AllQuit j D->Mo j D tag 0 0
def psi (n v:Nat):Tag->Nat
 |.wg r=>8*n+20+32*r
 |.kdS r=>8*n+20+32*r+24
 |.ad r=>8*n+20+32*r+23
 |.rs r=>8*n+20+32*r+22
 |.en r=>8*n+20+32*r+21
 |.gos r=>8*n+20+32*r+20
 |.kd=>8*n+12
 |.anch=>8*v+8
 |.ld=>8*v+7
 |.cs vs=>8*vs+6
 |.ws=>5
 |.sm=>4
 |.blk=>4
 |.l2=>3
 |.en2=>2
 |.acq=>1
end
end
section
open Go Go.Conc Go.ConcN Sim
open Go.ConcR (KK WgAt stA smA rd wr mk Payload DC0 g_of_ofEvents)
section
variable [Payload]
section
variable (o Wg C:Nat) (SB:Blocks)
def ShP:Loc->Prop:=ShB λb=>SB b\/b=Wg
def qB (j:Nat) (D:Nat->WX) (k:Nat) (l:Loc):Prop:= ∃i,i<j/\k=o+i/\(ug (D i).O l\/l=.cell ⟨C,i,none⟩)
def RdD (j:Nat) (D:Nat->WX) (k:Nat) (l:Loc):Prop:= ∃i,i<j/\k=o+i/\ug (λb=>(D i).F b/\¬(D i).O b) l
structure Sep (j:Nat) (D:Nat->WX) (FM OM:Blocks) (w:ae):Prop where
 wF:∀i,i<j->∀b,(D i).F b->b<w.heap.size/\b≠Wg/\b≠C/\¬SB b
 wO:∀i,i<j->∀b,(D i).O b->(D i).F b
 apart:∀i i',i<j->i'<j->i≠i'->∀b,(D i).O b->¬(D i').F b
 mF:∀b,FM b->b<w.heap.size/\b≠Wg/\b≠C/\¬SB b/\∀i,i<j->¬(D i).O b
 mO:∀b,OM b->FM b/\∀i,i<j->¬(D i).F b
 lW:Wg<w.heap.size
 lC:C<w.heap.size
 lS:∀b,SB b->b<w.heap.size
 hCW:C≠Wg
 sW:¬SB Wg
 sC:¬SB C
end
def Ia (o:Nat) (a:Addr) (t:aB):Prop:= ∃p,p<=t.size/\(∀i g,i<p->t.g? i=some g->g<o)/\∀i,p<=i->t.act? i≠some (.mark (.release a))
omit [Payload] in
theorem Ia.app {o:Nat} {a:Addr} {u:aB} (h:Ia o a t) (hu:∀op∈u,op.act≠.mark (.release a)):Ia o a (t++u):=by
 obtain⟨p,h0,h1,h2⟩:=h;refine⟨p,by simp;omega,λi g hi hg=>h1 i g hi (by rw[<-g?_old (u:=u) (by omega)];exact hg),λi hi he=>?_⟩;obtain⟨op,ho,Uc⟩:=ao.1 he;rcases aS ho with⟨_,yL⟩|⟨_,MZ⟩
 ·exact h2 i hi (by rw[act?_of yL,Uc])
 ·exact hu op MZ Uc
section
variable (P:aw) (ty:aJ) (o Wg C n:Nat) (SB:Blocks) (qw:Nat->Blocks->aL->ae->Prop)
structure xQ (j:Nat) (D:Nat->WX) (w:ae) (t:aB):Prop where
 ct:CT (ShP Wg SB) (qB o C j D) (RdD o j D) t (o-1+j)
 norel:Ia o (stA Wg) t
 hand:∀i g,t.g? i=some g->g≠0->g<o->t.counts i->∃q,t.g? q=some 0/\bB t i q
 known:∀i a,touchAt t i=some a->Knows t 0 i\/(ShP Wg SB a.loc/\a.kind=.atomic)\/∃g,t.g? i=some g/\o<=g/\a.kind≠.atomic
 mem:∀i a,touchAt t i=some a->a.loc.isMemory=true
 seen:∀op∈t,mE w.heap.size op.act
structure xu (j:Nat) (gs:Array aa) (w:ae) (t:aB) (D:Nat->WX) (q:Nat->Nat) (d0:Nat):Prop where
 size:gs.size=o+j
 old:∀i g,0<i->i<o->gs[i]?=some g->QuitsD P (q i) (Deaf t i) g
 wk:∀i,i<j->∃g,gs[o+i]?=some g/\WS P ty Wg C n qw i (D i) g w
 tr:xQ o Wg C SB j D w t
 deaf0:Deaf t 0=d0
 deafW:∀i,i<j->Deaf t (o+i)=(D i).deaf
 above:∀k,o+j<=k->Deaf t k=0
 rel:∀i,i<j->(D i).stage<=6->∃r,RelBy (stA Wg) t (o+i) r
 has:∀i,i<j->(D i).stage<=6->Has C i (D i).val w
 pay:bX C n w
 uU:0<o
end
section
variable {P:aw} {ty:aJ} {o Wg C n:Nat} {SB:Blocks} {qw:Nat->Blocks->aL->ae->Prop} {j:Nat} {gs:Array aa} {w w':ae} {t:aB} {D:Nat->WX} {q:Nat->Nat} {d0:Nat} {FM OM:Blocks}
omit [Payload] in
theorem Sep.own (h:Sep Wg C SB j D FM OM w):Apart (ShP Wg SB) (qB o C j D) (RdD o j D):=by
 have tq:∀{B:Blocks} {l:Loc},ug B l->∃b,B b/\((∃a,l=.cell a/\a.block=b)\/l=.obj b):=by
  intro B l hl;cases l with
  |cell a=>exact⟨_,hl,.inl ⟨a,rfl,rfl⟩⟩
  |obj r=>exact⟨_,hl,.inr rfl⟩
  |_=>exact hl.elim
 have same:∀{b b':Nat} {l:Loc},((∃a:Addr,l=.cell a/\a.block=b)\/l=.obj b)->((∃a:Addr,l=.cell a/\a.block=b')\/l=.obj b')->b=b':=by
  intro b b' l h1 h2;rcases h1 with⟨a,rfl,rfl⟩|rfl
  ·rcases h2 with⟨a',e,rfl⟩|e
   ·cases e;rfl
   ·cases e
  ·rcases h2 with⟨a',e,rfl⟩|e
   ·cases e
   ·cases e;rfl
 have cellC:∀{b i:Nat} {l:Loc},l=.cell ⟨C,i,none⟩->((∃a:Addr,l=.cell a/\a.block=b)\/l=.obj b)->b=C:=by
  intro b i l e h1;subst e;rcases h1 with⟨a,e,rfl⟩|e
  ·cases e;rfl
  ·cases e
 have Km:∀{l:Loc} {b:Nat},ShP Wg SB l->((∃a:Addr,l=.cell a/\a.block=b)\/l=.obj b)->SB b\/b=Wg:=by
  rintro l b ⟨a,rfl,hs⟩ h1;rcases h1 with⟨a',e,rfl⟩|e
  ·cases e;exact hs
  ·cases e
 refine⟨?_,?_,?_,?_⟩
 ·rintro k k' l ⟨i,hi,rfl,h1⟩ ⟨i',eX,rfl,h2⟩;by_cases e:i=i'
  ·rw[e]
  ·exfalso;rcases h1 with h1|h1<;>rcases h2 with h2|h2
   ·obtain⟨b,hb,hl⟩:=tq h1;obtain⟨b',fH,uq⟩:=tq h2;obtain rfl:=same hl uq;exact h.apart i i' hi eX e b hb (h.wO i' eX b fH)
   ·obtain⟨b,hb,hl⟩:=tq h1;exact(h.wF i hi b (h.wO i hi b hb)).2.2.1 (cellC h2 hl)
   ·obtain⟨b,hb,hl⟩:=tq h2;exact(h.wF i' eX b (h.wO i' eX b hb)).2.2.1 (cellC h1 hl)
   ·rw[h1]at h2;cases h2;exact e rfl
 ·rintro k k' l ⟨i,hi,rfl,h1⟩ ⟨i',eX,rfl,h2⟩;obtain⟨b',⟨fH,fq⟩,uq⟩:=tq h2;rcases h1 with h1|h1
  ·obtain⟨b,hb,hl⟩:=tq h1;obtain rfl:=same hl uq;by_cases e:i=i'
   ·subst e;exact fq hb
   ·exact h.apart i i' hi eX e b hb fH
  ·exact(h.wF i' eX b' fH).2.2.1 (cellC h1 uq)
 ·rintro k l ⟨i,hi,rfl,h1⟩ hs;rcases h1 with h1|h1
  ·obtain⟨b,hb,hl⟩:=tq h1;have:=h.wF i hi b (h.wO i hi b hb);rcases Km hs hl with x|x
   ·exact this.2.2.2 x
   ·exact this.2.1 x
  ·have:=Km (b:=C) hs (.inl ⟨_,h1,rfl⟩);rcases this with x|x
   ·exact h.sC x
   ·exact h.hCW x
 ·rintro k l ⟨i,hi,rfl,h1⟩ hs;obtain⟨b,⟨hb,_⟩,hl⟩:=tq h1;have:=h.wF i hi b hb;rcases Km hs hl with x|x
  ·exact this.2.2.2 x
  ·exact this.2.1 x
end
end
section
variable {o Wg C:Nat} {SB:Blocks} {j:Nat} {w w':ae} {t u:aB} {D D':Nat->WX}
theorem IV (h:∀i g,t.g? i=some g->g≠0->g<o->t.counts i->∃q,t.g? q=some 0/\bB t i q)
  (hu:∀op∈u,op.g=0\/o<=op.g\/op.act.touch?=none):∀i g,(t++u).g? i=some g->g≠0->g<o->(t++u).counts i->∃q,(t++u).g? q=some 0/\bB (t++u) i q:=by
 intro i g hg eD dW hc;have Cm:=hc;obtain⟨x,hx,_⟩:=hc;obtain⟨op,dU,qP⟩:=bT hx;rcases aS dU with⟨hi,eZ⟩|⟨_,ru⟩
 ·obtain⟨q,hq,hb⟩:=h i g (by simpa[bP,getElem?_append_old hi]using hg) eD dW ((counts_old hi).1 Cm);have mP:q<t.size:=by
   unfold bP at hq;obtain⟨z,hz,_⟩:=ao.1 hq;exact lt_size_of_getElem? hz
  exact⟨q,by simpa[bP,getElem?_append_old mP]using hq,hb_app u hb⟩
 ·have eg:op.g=g:=by simpa[bP,dU]using hg
  rcases hu op ru with h0|h0|h0
  ·omega
  ·omega
  ·rw[h0]at qP;cases qP
theorem I6 (h:∀i a,touchAt t i=some a->Knows t 0 i\/(ShP Wg SB a.loc/\a.kind=.atomic)\/∃g,t.g? i=some g/\o<=g/\a.kind≠.atomic)
  (hu:∀op∈u,∀x,op.act.touch?=some x->op.g=0\/(ShP Wg SB x.loc/\x.kind=.atomic)\/(o<=op.g/\x.kind≠.atomic)):
  ∀i a,touchAt (t++u) i=some a->Knows (t++u) 0 i\/(ShP Wg SB a.loc/\a.kind=.atomic)\/∃g,(t++u).g? i=some g/\o<=g/\a.kind≠.atomic:=by
 intro i a ha;obtain⟨op,dU,qP⟩:=bT ha;rcases aS dU with⟨hi,eZ⟩|⟨_,ru⟩
 ·rcases h i a (by rw[touchAt_of eZ];exact qP)with h0|h0|⟨g,h0,h1⟩
  ·exact .inl (h0.app u)
  ·exact .inr (.inl h0)
  ·exact .inr (.inr ⟨g,by rw[g?_old hi];exact h0,h1⟩)
 ·rcases hu op ru a qP with h0|h0|h0
  ·have:=knows_own dU;rw[h0]at this;exact .inl this
  ·exact .inr (.inl h0)
  ·exact .inr (.inr ⟨op.g,by simp[bP,dU],h0⟩)
theorem QH (h:∀op∈t,mE B op.act) {l:Loc} {S:Blocks} (hl:ug S l) (hS:∀b,S b->B<=b):nP t l:=by
 cases l with
 |cell a=>exact Rz h (hS _ hl)
 |obj r=>
  intro i x hx e;obtain⟨op,dU,qP⟩:=bT hx;have mV:=h op (mem_of_getElem? dU) x qP;rw[e]at mV;exact cw _ (xll mV (hS _ hl))
 |_=>exact hl.elim
theorem QU {A B E:Blocks} (h:∀b,A b->B b\/E b) {l:Loc} (hl:ug A l):ug B l\/ug E l:=by
 cases l with
 |cell a=>exact h _ hl
 |obj r=>exact h _ hl
 |_=>exact hl.elim
theorem xQ.appW (h:xQ o Wg C SB j D w t) (A:Apart (ShP Wg SB) (qB o C j D') (RdD o j D')) (hi:i<j) (ho:0<o) (eT:w.heap.size<=w'.heap.size)
  (hD:∀i',i'≠i->D' i'=D i') (hF:∀b,(D i).F b->(D' i).F b) (hO:∀b,(D i).O b->(D' i).O b) (jK:∀b,(D' i).F b->(D i).F b\/w.heap.size<=b) (vN:∀b,(D' i).O b->(D i).O b\/w.heap.size<=b) (mV:∀b,(D i).F b->b<w.heap.size)
  (hg:∀op∈u,op.g=o+i)
  (hk:∀op∈u,∀x,op.act.touch?=some x->x.loc.isMemory=true/\((ShP Wg SB x.loc/\x.kind=.atomic)\/(x.kind=.plain/\(qB o C j D' (o+i) x.loc\/(RdD o j D' (o+i) x.loc/\x.write=false)))))
  (hn:∀op∈u,op.act≠.mark (.release (stA Wg))) (hl:∀op∈u,mE w'.heap.size op.act):xQ o Wg C SB j D' w' (t++u):=by
 have grow:CT (ShP Wg SB) (qB o C j D') (RdD o j D') t (o-1+j):=by
  refine CT.grow h.ct (λk l=>?_) (λk l=>?_) (λk l=>?_) (λk l=>?_)
  ·rintro⟨i',eX,rfl,h1⟩;by_cases e:i'=i
   ·subst e;rcases h1 with h1|h1
    ·rcases QU vN h1 with h2|h2
     ·exact .inl ⟨i',eX,rfl,.inl h2⟩
     ·exact .inr (QH h.seen h2 λ_ x=>x)
    ·exact .inl ⟨i',eX,rfl,.inr h1⟩
   ·rw[hD i' e]at h1;exact .inl ⟨i',eX,rfl,h1⟩
  ·rintro⟨i',eX,rfl,h1⟩;by_cases e:i'=i
   ·subst e;rcases QU (B:=λb=>(D i').F b/\¬(D i').O b) (E:=λb=>w.heap.size<=b) (λb ⟨hb,mJ⟩=>(jK b hb).imp (λx=>⟨x,λy=>mJ (hO b y)⟩) id) h1 with h2|h2
    ·exact .inl ⟨i',eX,rfl,h2⟩
    ·exact .inr (QH h.seen h2 λ_ x=>x)
   ·rw[hD i' e]at h1;exact .inl ⟨i',eX,rfl,h1⟩
  ·rintro⟨i',eX,rfl,h1⟩;by_cases e:i'=i
   ·subst e;refine⟨i',eX,rfl,h1.imp (λx=>?_) id⟩;cases l with
    |cell a=>exact hO _ x
    |obj r=>exact hO _ x
    |_=>exact x.elim
   ·exact⟨i',eX,rfl,by rw[hD i' e];exact h1⟩
  ·rintro⟨i',eX,rfl,h1⟩;by_cases e:i'=i
   ·subst e;have key:∀b,((D i').F b/\¬(D i').O b)->((D' i').F b/\¬(D' i').O b):=λb ⟨x,y⟩=>⟨hF b x,λz=>(vN b z).elim y λv=>by have:=mV b x;omega⟩
    refine⟨i',eX,rfl,?_⟩;cases l with
    |cell a=>exact key _ h1
    |obj r=>exact key _ h1
    |_=>exact h1.elim
   ·exact⟨i',eX,rfl,by rw[hD i' e];exact h1⟩
 refine⟨grow.appW A (k:=o+i) (by omega) (by omega) λop dU=>⟨hg op dU,λx hx=>?_⟩,h.norel.app hn,IV h.hand λop dU=>.inr (.inl (by rw[hg op dU];omega)),I6 h.known λop dU x hx=>?_,Dy h.mem λop dU x hx=>(hk op dU x hx).1,λop dU=>?_⟩
 ·rcases(hk op dU x hx).2 with⟨h1,h2⟩|⟨h1,h2⟩
  ·exact .inl ⟨h1,by rw[h2];simp,by rw[h2];simp⟩
  ·exact .inr h2
 ·rcases(hk op dU x hx).2 with h1|⟨h1,_⟩
  ·exact .inr (.inl h1)
  ·exact .inr (.inr ⟨by rw[hg op dU];omega,by rw[h1];simp⟩)
 ·rcases bQ.1 dU with h'|h'
  ·exact(h.seen op h').mono eT
  ·exact hl op h'
theorem xQ.app0 (h:xQ o Wg C SB j D w t) (A:Apart (ShP Wg SB) (qB o C j D) (RdD o j D)) (eT:w.heap.size<=w'.heap.size) (fu:∀op∈u,Ok0 (ShP Wg SB) (qB o C j D) (RdD o j D) (o-1+j) op)
  (hm:∀op∈u,∀x,op.act.touch?=some x->x.loc.isMemory=true) (hn:∀op∈u,op.act≠.mark (.release (stA Wg))) (hl:∀op∈u,mE w'.heap.size op.act):xQ o Wg C SB j D w' (t++u):=by
 refine⟨h.ct.app0 A fu,h.norel.app hn,IV h.hand λop dU=>.inl (fu op dU).1,I6 h.known λop dU x _=>.inl (fu op dU).1,Dy h.mem hm,λop dU=>?_⟩;rcases bQ.1 dU with h'|h'
 ·exact(h.seen op h').mono eT
 ·exact hl op h'
end
end
section
open Go Go.Conc Go.ConcN Sim
def RL (N:Nat) (f g:Nat->Rank):Prop:= ∃i,i<N/\Rank.sub (f i) (g i)/\∀k,k≠i->f k=g k
theorem RL.wf (N:Nat):WellFounded (RL N):=by
 induction N with
 |zero=>exact⟨λg=>⟨_,λf ⟨i,hi,_⟩=>absurd hi (aq i)⟩⟩
 |succ N ih=>
  have key:∀r:Rank,∀g:Nat->Rank,g N=r->Acc (RL (N+1)) g:=by
   intro r;induction r using Rank.wf.induction with
   |_ r ihr=>
    intro g hg;have inner:∀g:Nat->Rank,g N=r->Acc (RL (N+1)) g:=by
     intro g;induction g using ih.induction with
     |_ g ihg=>
      intro hg;refine⟨_,λf ⟨i,hi,hs,he⟩=>?_⟩;by_cases e:i=N
      ·subst e;exact ihr (f i) (hg▸hs) f rfl
      ·exact ihg f ⟨i,by omega,hs,he⟩ ((he N (λh=>e h.symm)).trans hg)
    exact inner g hg
  exact⟨λg=>key _ g rfl⟩
abbrev Mea:=Nat×(Nat->Rank)×Nat
def MLt (N:Nat):Mea->Mea->Prop:=Prod.Lex (· <·) (Prod.Lex (RL N) (· <·))
theorem MLt.wf (N:Nat):WellFounded (MLt N):=(Prod.lex Nat.lt_wfRel (Prod.lex ⟨RL N,RL.wf N⟩ Nat.lt_wfRel)).wf
end
section
open Go Go.Conc Go.ConcN Sim
open Go.ConcR (KK WgAt stA smA rd wr mk Payload DC0 g_of_ofEvents)
section
variable [Payload]
section
variable {P:aw} {ty:aJ} {o Wg C n:Nat} {SB:Blocks} {qw:Nat->Blocks->aL->ae->Prop} {j:Nat} {gs:Array aa} {w w':ae} {t:aB} {D:Nat->WX} {q:Nat->Nat} {d0:Nat} {FM OM:Blocks}
theorem WS.rely (qx:∀i F v w w1,qw i F v w->Ext F w w1->qw i F v w1) {d:WX} (h:WS P ty Wg C n qw i d g w) (e:Ext d.F w w') (r:RW ty Wg C n 0 i w w'):WS P ty Wg C n qw i d g w':=by
 cases h with
 |own h1 h2 h3 h=>exact .own h1 h2 h3 (h.ext e)
 |lib h hr=>exact .lib (h.rely (by simpa using r)) (qx _ _ _ _ _ hr e)
theorem WS.status {d:WX} (h:WS P ty Wg C n qw i d g w):g.status=.running\/g.status=.finished:=by
 cases h with
 |own h1 h2 h3 h=>exact .inl (KW (λ_ _ _ _ x=>x.1) h)
 |lib h hr=>exact h.status
theorem WS.woken {d:WX} (h:WS P ty Wg C n qw i d g w) (a a':aa) (w1:ae):woken P a a' w1 g=g:=by
 unfold Go.Conc.woken;split
 ·exact again_running _ h.status
 ·rfl
theorem xu.stepW (qx:∀i F v w w1,qw i F v w->Ext F w w1->qw i F v w1) (h:xu P ty o Wg C n SB qw j gs w t D q d0) (S:Sep Wg C SB j D FM OM w) (hi:i<j) {pos:String} {x:WX}
  (S':Sep Wg C SB j (upd D i x) FM OM w')
  (gW:∀i',i'<j->i'≠i->Ext (D i').F w w'/\RW ty Wg C n 0 i' w w') (l6:WS P ty Wg C n qw i x g' w') (eT:w.heap.size<=w'.heap.size)
  (hF:∀b,(D i).F b->x.F b) (hO:∀b,(D i).O b->x.O b) (jK:∀b,x.F b->(D i).F b\/w.heap.size<=b) (vN:∀b,x.O b->(D i).O b\/w.heap.size<=b)
  (hk:∀e∈es,∀y,(aj e).touch?=some y->y.loc.isMemory=true/\((ShP Wg SB y.loc/\y.kind=.atomic)\/(y.kind=.plain/\(qB o C j (upd D i x) (o+i) y.loc\/(RdD o j (upd D i x) (o+i) y.loc/\y.write=false)))))
  (yN:∀e∈es,e.loc≠.mark (.release (stA Wg))) (hl:∀e∈es,mE w'.heap.size (aj e))
  (wH:ax (D i).deaf es=x.deaf) (hrel:x.stage<=6->∃r,RelBy (stA Wg) (t++av (o+i) fn pos es) (o+i) r)
  (jP:x.stage<=6->Has C i x.val w') (kV:bX C n w'):
  xu P ty o Wg C n SB qw j ((gs.map (woken P g g' w')).setIfInBounds (o+i) g') w' (t++av (o+i) fn pos es) (upd D i x) q d0:=by
 have dU:=h.uU;have ne:∀k,k≠o+i->Deaf (t++av (o+i) fn pos es) k=Deaf t k:=λk hk=>bp t (λe=>hk e.symm) _ g_of_ofEvents;refine⟨by simp[h.size],λi' g1 h0 dW jB=>?_,λi' eX=>?_,?_,by rw[ne 0 (by omega),h.deaf0],λi' eX=>?_,λk pY=>by rw[ne k (by omega)];exact h.above k pY,λi' eX hst=>?_,λi' eX hst=>?_,kV,dU⟩
 ·rw[bg _ _ _ _ (by omega)]at jB;obtain⟨y,hy,rfl⟩:=ao.1 jB;have hq:=h.old i' y h0 dW hy;rw[bD hq,ne i' (by omega)];exact hq
 ·by_cases e:i'=i
  ·subst e;exact⟨g',bq _ _ _ (by rw[h.size];omega),by rw[al];exact l6⟩
  ·obtain⟨y,hy,wX⟩:=h.wk i' eX;refine⟨y,by rw[bg _ _ _ _ (by omega),hy,bR,wX.woken],?_⟩;rw[ay D _ e];exact wX.rely qx (gW i' eX e).1 (gW i' eX e).2
 ·refine h.tr.appW S'.own hi dU eT (λi' e=>ay D _ e) (by rw[al];exact hF) (by rw[al];exact hO) (by rw[al];exact jK) (by rw[al];exact vN) (λb hb=>(S.wF i hi b hb).1) g_of_ofEvents (λop eZ y hy=>?_) (norel_of yN) (λop eZ=>?_)
  ·obtain⟨e,he,rfl⟩:=ak eZ;exact hk e he y hy
  ·obtain⟨e,he,rfl⟩:=ak eZ;exact hl e he
 ·by_cases e:i'=i
  ·subst e;rw[Deaf_own,h.deafW i' eX,al];exact wH
  ·rw[ne _ (by omega),h.deafW i' eX,ay D _ e]
 ·by_cases e:i'=i
  ·subst e;rw[al]at hst;exact hrel hst
  ·rw[ay D _ e]at hst;obtain⟨r,hr⟩:=h.rel i' eX hst;exact⟨r,hr.appOther g_of_ofEvents (by omega)⟩
 ·by_cases e:i'=i
  ·subst e;rw[al]at hst⊢;exact jP hst
  ·rw[ay D _ e]at hst⊢;exact(gW i' eX e).2.cell.trans (h.has i' eX hst)
theorem xu.step0 (qx:∀i F v w w1,qw i F v w->Ext F w w1->qw i F v w1) (h:xu P ty o Wg C n SB qw j gs w t D q d0) (S:Sep Wg C SB j D FM OM w) {a:aa} {pos:String}
  (gW:∀i,i<j->Ext (D i).F w w'/\RW ty Wg C n 0 i w w') (eT:w.heap.size<=w'.heap.size)
  (fu:∀op∈av 0 fn pos es,Ok0 (ShP Wg SB) (qB o C j D) (RdD o j D) (o-1+j) op) (hm:∀e∈es,∀y,(aj e).touch?=some y->y.loc.isMemory=true)
  (yN:∀e∈es,e.loc≠.mark (.release (stA Wg))) (hl:∀e∈es,mE w'.heap.size (aj e)) (kV:bX C n w'):
  xu P ty o Wg C n SB qw j ((gs.map (woken P a a' w')).setIfInBounds 0 a') w' (t++av 0 fn pos es) D q (ax d0 es):=by
 have dU:=h.uU;have ne:∀k,k≠0->Deaf (t++av 0 fn pos es) k=Deaf t k:=λk hk=>bp t (λe=>hk e.symm) _ g_of_ofEvents;refine⟨by simp[h.size],λi' g1 h0 dW jB=>?_,λi' eX=>?_,?_,by rw[Deaf_own,h.deaf0],λi' eX=>by rw[ne _ (by omega),h.deafW i' eX],λk pY=>by rw[ne k (by omega)];exact h.above k pY,λi' eX hst=>?_,λi' eX hst=>(gW i' eX).2.cell.trans (h.has i' eX hst),kV,dU⟩
 ·rw[bg _ _ _ _ (by omega)]at jB;obtain⟨y,hy,rfl⟩:=ao.1 jB;have hq:=h.old i' y h0 dW hy;rw[bD hq,ne i' (by omega)];exact hq
 ·obtain⟨y,hy,wX⟩:=h.wk i' eX;exact⟨y,by rw[bg _ _ _ _ (by omega),hy,bR,wX.woken],wX.rely qx (gW i' eX).1 (gW i' eX).2⟩
 ·refine h.tr.app0 S.own eT fu (λop eZ y hy=>?_) (norel_of yN) (λop eZ=>?_)
  ·obtain⟨e,he,rfl⟩:=ak eZ;exact hm e he y hy
  ·obtain⟨e,he,rfl⟩:=ak eZ;exact hl e he
 ·obtain⟨r,hr⟩:=h.rel i' eX hst;exact⟨r,hr.appOther g_of_ofEvents (by omega)⟩
theorem xu.q6k (h:xu P ty o Wg C n SB qw j gs w t D q d0) (S:Sep Wg C SB j D FM OM w) {k:Nat} (k0:0<k) (ko:k<o) {pos:String} {q1:Nat}
  (hm:∀e∈es,e.mute=true) (hq:QuitsD P q1 (ax (Deaf t k) es) g'):
  xu P ty o Wg C n SB qw j ((gs.map (woken P g g' w)).setIfInBounds k g') w (t++av k fn pos es) D (upd q k q1) d0:=by
 have dU:=h.uU;have ne:∀k',k'≠k->Deaf (t++av k fn pos es) k'=Deaf t k':=λk' hk=>bp t (λe=>hk e.symm) _ g_of_ofEvents;have quiet:∀op∈av k fn pos es,op.act.touch?=none:=λop eZ=>by obtain⟨e,he,rfl⟩:=ak eZ;exact touch_mute (hm e he)
 refine⟨by simp[h.size],λi' g1 h0 dW jB=>?_,λi' eX=>?_,?_,by rw[ne 0 (by omega),h.deaf0],λi' eX=>by rw[ne _ (by omega),h.deafW i' eX],λk' pY=>by rw[ne k' (by omega)];exact h.above k' pY,λi' eX hst=>?_,h.has,h.pay,dU⟩
 ·by_cases e:i'=k
  ·subst e;rw[bq _ _ _ (by rw[h.size];omega)]at jB;cases jB;rw[al,Deaf_own];exact hq
  ·rw[bg _ _ _ _ (λx=>e x.symm)]at jB;obtain⟨y,hy,rfl⟩:=ao.1 jB;have hq:=h.old i' y h0 dW hy;rw[bD hq,ne i' e,ay q _ e];exact hq
 ·obtain⟨y,hy,wX⟩:=h.wk i' eX;exact⟨y,by rw[bg _ _ _ _ (by omega),hy,bR,wX.woken],wX⟩
 ·have A:=S.own (o:=o);refine⟨h.tr.ct.appW A (k:=k) (by omega) (by omega) λop eZ=>⟨g_of_ofEvents op eZ,λx hx=>by rw[quiet op eZ]at hx;cases hx⟩,h.tr.norel.app (norel_of λe he hl=>(by have:=hm e he;obtain⟨l,_,_⟩:=e;have hl:l=_:=hl;subst hl;cases this)),IV h.tr.hand λop eZ=>.inr (.inr (quiet op eZ)),
   I6 h.tr.known λop eZ x hx=>(by rw[quiet op eZ]at hx;cases hx),Dy h.tr.mem λop eZ x hx=>(by rw[quiet op eZ]at hx;cases hx),I4 h.tr.seen λop eZ=>by obtain⟨e,he,rfl⟩:=ak eZ;exact BL (low_mute (hm e he) _)⟩
 ·obtain⟨r,hr⟩:=h.rel i' eX hst;exact⟨r,hr.appOther g_of_ofEvents (by omega)⟩
theorem xu.at (qx:∀i F v w w1,qw i F v w->Ext F w w1->qw i F v w1) (h:xu P ty o Wg C n SB qw j gs w t D q d0) (d:Nat):xu P ty o Wg C n SB qw j gs (w.at d) t D q d0:=
 ⟨h.size,h.old,λi hi=>let⟨g,hg,hs⟩:=h.wk i hi;⟨g,hg,hs.rely qx ⟨jm _,λ_ _=>rfl⟩ (RW.at w d)⟩,⟨h.tr.ct,h.tr.norel,h.tr.hand,h.tr.known,h.tr.mem,h.tr.seen⟩,h.deaf0,h.deafW,h.above,h.rel,h.has,h.pay,h.uU⟩
end
end
section
variable [Payload]
section
variable {P:aw} {ty:aJ} {o Wg C n:Nat} {SB:Blocks} {qw:Nat->Blocks->aL->ae->Prop} {j:Nat} {gs:Array aa} {w:ae} {t:aB} {D:Nat->WX} {q:Nat->Nat} {FM OM:Blocks}
theorem xu.spawn (h:xu P ty o Wg C n SB qw j gs w t D q 0) {x:WX} (S':Sep Wg C SB (j+1) (upd D j x) FM OM w) {child:aa} (h9:x.stage=9) (hx:x.deaf=0) (hs:WS P ty Wg C n qw j x child w) {pos:String} {fn':aK} {pos':String}:
  xu P ty o Wg C n SB qw (j+1) ((gs.setIfInBounds 0 a').push child) w (t++#[{g:=0,fn,pos,act:=.go (o+j)},{g:=o+j,fn:=fn',pos:=pos',act:=.start}]) (upd D j x) q 0:=by
 have dU:=h.uU;have quiet:∀op∈(#[{g:=0,fn,pos,act:=.go (o+j)},{g:=o+j,fn:=fn',pos:=pos',act:=.start}]:aB),op.act.touch?=none/\(op.g=0\/op.g=o+j)/\op.act≠.mark (.release (stA Wg))/\mE w.heap.size op.act:=λop eZ=>by
  simp only[aX,List.mem_cons,List.not_mem_nil,or_false]at eZ;rcases eZ with rfl|rfl
  ·exact⟨rfl,.inl rfl,by simp,BL trivial⟩
  ·exact⟨rfl,.inr rfl,by simp,BL trivial⟩
 have deaf:∀k,Deaf (t++#[{g:=0,fn,pos,act:=.go (o+j)},{g:=o+j,fn:=fn',pos:=pos',act:=.start}]) k=Deaf t k:=λk=>by
  have:=Deaf_append t k [{g:=0,fn,pos,act:=.go (o+j)},{g:=o+j,fn:=fn',pos:=pos',act:=.start}];rw[show(#[{g:=0,fn,pos,act:=.go (o+j)},{g:=o+j,fn:=fn',pos:=pos',act:=.start}]:aB)=[{g:=0,fn,pos,act:=.go (o+j)},{g:=o+j,fn:=fn',pos:=pos',act:=.start}].toArray from rfl,this];simp[deafStep]
 have Ti:∀(i:Nat),i<j->i≠j:=λi hi=>Nat.ne_of_lt hi;refine⟨by simp[h.size];omega,λi' g1 h0 dW jB=>?_,λi' eX=>?_,?_,by rw[deaf,h.deaf0],λi' eX=>?_,λk hk=>by rw[deaf];exact h.above k (by omega),λi' eX hst=>?_,λi' eX hst=>?_,h.pay,dU⟩
 ·have iR:i'<(gs.setIfInBounds 0 a').size:=by simp[h.size];omega
  rw[bo iR]at jB;have jN:gs[i']?=some g1:=by
   rw[<-jB,<-aF iR,xne (by omega)]
  rw[deaf];exact h.old i' g1 h0 dW jN
 ·by_cases e:i'=j
  ·subst e;refine⟨child,?_,by rw[al];exact hs⟩;have:o+i'=(gs.setIfInBounds 0 a').size:=by simp[h.size]
   rw[this];exact Array.getElem?_push_size
  ·obtain⟨y,hy,wX⟩:=h.wk i' (by omega);refine⟨y,?_,by rw[ay D _ e];exact wX⟩;have iR:o+i'<(gs.setIfInBounds 0 a').size:=by simp[h.size];omega
   rw[bo iR,<-aF iR,xne (by omega)];exact hy
 ·have same:∀k l,k<=o-1+j->(qB o C (j+1) (upd D j x) k l↔qB o C j D k l)/\(RdD o (j+1) (upd D j x) k l↔RdD o j D k l):=by
   intro k l hk;refine⟨⟨?_,?_⟩,⟨?_,?_⟩⟩
   ·rintro⟨i,hi,rfl,h1⟩;have e:i≠j:=by omega
    rw[ay D _ e]at h1;exact⟨i,by omega,rfl,h1⟩
   ·rintro⟨i,hi,rfl,h1⟩;exact⟨i,by omega,rfl,by rw[ay D _ (Ti i hi)];exact h1⟩
   ·rintro⟨i,hi,rfl,h1⟩;have e:i≠j:=by omega
    rw[ay D _ e]at h1;exact⟨i,by omega,rfl,h1⟩
   ·rintro⟨i,hi,rfl,h1⟩;exact⟨i,by omega,rfl,by rw[ay D _ (Ti i hi)];exact h1⟩
  have Cs:=h.tr.ct;have ct1:CT (ShP Wg SB) (qB o C (j+1) (upd D j x)) (RdD o (j+1) (upd D j x)) t (o-1+j):=
   ⟨Cs.quiet,λk k1 kj l hl=>Cs.own k k1 kj l ((same k l kj).1.1 hl),λk k1 kj l hl=>Cs.rd k k1 kj l ((same k l kj).2.1 hl),
    λl hs hl=>Cs.free l hs λk k1 kj=>⟨λy=>(hl k k1 kj).1 ((same k l kj).1.2 y),λy=>(hl k k1 kj).2 ((same k l kj).2.2 y)⟩,λl hs hl=>Cs.mine l hs λk k1 kj y=>hl k k1 kj ((same k l kj).1.2 y),Cs.nr,Cs.gs⟩
  have e1:o-1+j+1=o+j:=by omega
  have ct2:=CT.fork S'.own ct1 (x:={g:=0,fn,pos,act:=.go (o+j)}) (y:={g:=o+j,fn:=fn',pos:=pos',act:=.start}) ⟨rfl,by rw[e1]⟩ ⟨by rw[e1],rfl⟩ h.deaf0;refine⟨ct2,h.tr.norel.app λop eZ=>(quiet op eZ).2.2.1,IV h.tr.hand λop eZ=>.inr (.inr (quiet op eZ).1),I6 h.tr.known λop eZ y hy=>(by rw[(quiet op eZ).1]at hy;cases hy),Dy h.tr.mem λop eZ y hy=>(by rw[(quiet op eZ).1]at hy;cases hy),I4 h.tr.seen λop eZ=>(quiet op eZ).2.2.2⟩
 ·by_cases e:i'=j
  ·subst e;rw[deaf,al,hx];exact h.above _ (jm _)
  ·rw[deaf,h.deafW i' (by omega),ay D _ e]
 ·by_cases e:i'=j
  ·subst e;rw[al]at hst;omega
  ·rw[ay D _ e]at hst;obtain⟨r,hr⟩:=h.rel i' (by omega) hst;refine⟨r,hr.app λi hi hg hc=>?_⟩;obtain⟨y,hy,_⟩:=hc;obtain⟨op,eZ,Ub⟩:=bT hy;rcases aS eZ with⟨dW,_⟩|⟨_,MZ⟩
   ·omega
   ·rw[(quiet op MZ).1]at Ub;cases Ub
 ·by_cases e:i'=j
  ·subst e;rw[al]at hst;omega
  ·rw[ay D _ e]at hst⊢;exact h.has i' (by omega) hst
end
end
def JT (n:Nat):Tag->Nat->Prop
 |.wg r,j=>j+r=n
 |.kdS r,j|.ad r,j|.rs r,j|.en r,j|.gos r,j=>j+r+1=n
 |_,j=>j=n
def iw (j:Nat) (D:Nat->WX):Nat:=sumTo j λi=>(D i).stage
def jI (j:Nat) (D:Nat->WX):Nat:=sumTo j λi=>(D i).fuel
def ranks (n:Nat) (D:Nat->WX) (rk:Rank):Nat->Rank:=λi=>if i=n then rk else(D i).rank
structure Kept (Wg C L0:Nat) (w0:ae) (j:Nat) (D:Nat->WX) (OM:Blocks) (w:ae):Prop where
 keep:∀b,b<L0->w.heap[b]?=w0.heap[b]?
 lW:L0<=Wg
 lC:L0<=C
 lO:∀i,i<j->∀b,(D i).O b->L0<=b
 lM:∀b,OM b->L0<=b
 tape:w.tape=w0.tape
 os:w.os=w0.os
 output:w.output=w0.output
 nb:NB w0->NB w
theorem Jd {b:Nat} (_:∀r,r≠b->w'.heap[r]?=w.heap[r]?) (_:∃c e z,w'.heap[b]?=some (.cells c e z)) (_:NB w):NB w':=trivial
section
variable [Payload] (P:aw) (ty:aJ) (o Wg C n:Nat) (SB:Blocks) (qw:Nat->Blocks->aL->ae->Prop) (K:aa->ae->Prop) (L0:Nat) (w0:ae)
def sI (μ:Mea) (m:Machine) (t:aB):Prop:=
 ∃(gs:Array aa) (w:ae) (sl:Option (Nat×Nat)) (j:Nat) (D:Nat->WX) (q:Nat->Nat) (tag:Tag) (f0 d0:Nat) (rk:Rank) (FM OM:Blocks) (a:aa) (st sm:Int),
  m=crowd gs w sl/\gs[0]?=some a/\MS P ty Wg C n qw K tag f0 d0 rk FM OM a w/\xu P ty o Wg C n SB qw j gs w t D q d0/\Sep Wg C SB j D FM OM w/\WgAt ty Wg w st sm/\Mo j (xd D) tag st sm/\JT n tag j/\
  Kept Wg C L0 w0 j D OM w/\μ=(psi n (Vc j (xd D)) tag+iw j D,ranks n D rk,f0+2*jI j D+2*sumTo o q)
end
theorem JT.retag {tag tag':Tag} (h:JT n tag j) (e:tag'=tag\/(tag=.blk/\tag'=.sm)):JT n tag' j:=by
 rcases e with rfl|⟨rfl,rfl⟩
 ·exact h
 ·exact h
theorem Ri (n v:Nat) {tag tag':Tag} (e:tag'=tag\/(tag=.blk/\tag'=.sm)):psi n v tag'=psi n v tag:=by
 rcases e with rfl|⟨rfl,rfl⟩<;>rfl
theorem q1s (n:Nat) {v v':Nat} (h:v'<=v) (tag:Tag):psi n v' tag<=psi n v tag:=by
 cases tag<;>simp only[psi]<;>omega
theorem JT.le {tag:Tag} (h:JT n tag j):j<=n:=by
 cases tag<;>simp only[JT]at h<;>omega
section
variable [Payload] {P:aw} {ty:aJ} {o Wg C n:Nat} {SB:Blocks} {qw:Nat->Blocks->aL->ae->Prop} {K:aa->ae->Prop} {L0:Nat} {w0:ae} {gs:Array aa} {w w':ae} {sl:Option (Nat×Nat)} {j:Nat} {D:Nat->WX} {q:Nat->Nat} {tag:Tag} {f0 d0:Nat} {rk:Rank} {FM OM:Blocks} {a:aa} {t:aB}
theorem workerStep (qx:∀i F v w w1,qw i F v w->Ext F w w1->qw i F v w1) (ha:gs[0]?=some a) (jM:MS P ty Wg C n qw K tag f0 d0 rk FM OM a w) (dO:xu P ty o Wg C n SB qw j gs w t D q d0) (S:Sep Wg C SB j D FM OM w) (eY:JT n tag j) (eP:Kept Wg C L0 w0 j D OM w) (hi:i<j) {x:WX} {st' sm':Int} (hg:gs[o+i]?=some g) (hgo:au P false g w=.go g' w' es)
  (S':Sep Wg C SB j (upd D i x) FM OM w') (hRM:RM ty Wg FM w w')
  (gW:∀i',i'<j->i'≠i->Ext (D i').F w w'/\RW ty Wg C n 0 i' w w') (l6:WS P ty Wg C n qw i x g' w') (eT:w.heap.size<=w'.heap.size)
  (hF:∀b,(D i).F b->x.F b) (hO:∀b,(D i).O b->x.O b) (jK:∀b,x.F b->(D i).F b\/w.heap.size<=b) (vN:∀b,x.O b->(D i).O b\/w.heap.size<=b)
  (hk:∀e∈es,∀y,(aj e).touch?=some y->y.loc.isMemory=true/\((ShP Wg SB y.loc/\y.kind=.atomic)\/(y.kind=.plain/\(qB o C j (upd D i x) (o+i) y.loc\/(RdD o j (upd D i x) (o+i) y.loc/\y.write=false)))))
  (yN:∀e∈es,e.loc≠.mark (.release (stA Wg))) (hl:∀e∈es,mE w'.heap.size (aj e))
  (wH:ax (D i).deaf es=x.deaf) (hrel:x.stage<=6->∃r,RelBy (stA Wg) (t++av (o+i) g.frame.fn g.frame.place es) (o+i) r)
  (jP:x.stage<=6->Has C i x.val w') (kV:bX C n w') (eU:WgAt ty Wg w' st' sm')
  (dM:∀tag',(tag'=tag\/(tag=.blk/\tag'=.sm))->(mayWake P g=true->g'.status=.running->tag'≠.blk)->Mo j (xd (upd D i x)) tag' st' sm')
  (Ak:Kept Wg C L0 w0 j (upd D i x) OM w')
  (dW:(x.stage<(D i).stage/\cnt (xd (upd D i x) i)<=cnt (xd D i))\/(x.stage=(D i).stage/\Rank.sub x.rank (D i).rank)\/(x.stage=(D i).stage/\x.rank=(D i).rank/\x.fuel+1=(D i).fuel)):
  ∃m₁ ops μ',runT P (crowd gs w sl) (o+i)=(.next m₁,ops)/\MLt (n+1) μ' (psi n (Vc j (xd D)) tag+iw j D,ranks n D rk,f0+2*jI j D+2*sumTo o q)/\sI P ty o Wg C n SB qw K L0 w0 μ' m₁ (t++ops):=by
 have dU:=dO.uU;have Gh:=eY.le;obtain⟨tag',f',uF,Cj,qZ,JM⟩:=jM.wokenBy hRM g g';have dZ:=bj (P:=P) (sl:=sl) (i:=o+i) hg (by rw[show(o+i==0)=false from by simp;omega];exact hgo);have gF:=dO.stepW (fn:=g.frame.fn) (pos:=g.frame.place) qx S hi S' gW l6 eT hF hO jK vN hk yN hl wH hrel jP kV (g:=g);refine⟨_,_,_,dZ,?_,_,w',sl,j,upd D i x,q,tag',f',d0,rk,FM,OM,woken P g g' w' a,st',sm',rfl,by rw[bg _ _ _ _ (by omega),ha];rfl,uF,gF,S',eU,dM tag' qZ JM,eY.retag qZ,Ak,rfl⟩;rw[Ri n _ qZ];have e1:=sumTo_upd D x (λd:WX=>cnt ⟨if d.stage=9 then 7 else d.stage,d.fuel,d.deaf⟩) hi;have e2:=sumTo_upd D x WX.stage hi;have e3:=sumTo_upd D x WX.fuel hi;have c1:cnt (xd (upd D i x) i)=cnt ⟨if x.stage=9 then 7 else x.stage,x.fuel,x.deaf⟩:=by simp only[xd,al]
 have v1:Vc j (xd (upd D i x))=sumTo j λa=>cnt ⟨if(upd D i x a).stage=9 then 7 else(upd D i x a).stage,(upd D i x a).fuel,(upd D i x a).deaf⟩:=rfl;have v2:Vc j (xd D)=sumTo j λa=>cnt ⟨if(D a).stage=9 then 7 else(D a).stage,(D a).fuel,(D a).deaf⟩:=rfl;rcases dW with⟨h1,h2⟩|⟨h1,h2⟩|⟨h1,h2,h3⟩
 ·refine ba _ _ ?_;rw[c1]at h2;have h2':cnt ⟨if x.stage=9 then 7 else x.stage,x.fuel,x.deaf⟩<=cnt ⟨if(D i).stage=9 then 7 else(D i).stage,(D i).fuel,(D i).deaf⟩:=h2;have:=q1s n (v':=Vc j (xd (upd D i x))) (v:=Vc j (xd D)) (by rw[v1,v2];omega) tag;simp only[iw];omega
 ·have ec:cnt ⟨if x.stage=9 then 7 else x.stage,x.fuel,x.deaf⟩=cnt ⟨if(D i).stage=9 then 7 else(D i).stage,(D i).fuel,(D i).deaf⟩:=by simp only[cnt,h1]
  have ev:Vc j (xd (upd D i x))=Vc j (xd D):=by rw[v1,v2];omega
  have es:iw j (upd D i x)=iw j D:=by simp only[iw];omega
  rw[ev,es];refine aR _ (ba _ _ ⟨i,by omega,?_,λk hk=>?_⟩)
  ·simp only[ranks,al];rw[if_neg (by omega),if_neg (by omega)];exact h2
  ·simp only[ranks];rw[ay D _ hk]
 ·have ec:cnt ⟨if x.stage=9 then 7 else x.stage,x.fuel,x.deaf⟩=cnt ⟨if(D i).stage=9 then 7 else(D i).stage,(D i).fuel,(D i).deaf⟩:=by simp only[cnt,h1]
  have ev:Vc j (xd (upd D i x))=Vc j (xd D):=by rw[v1,v2];omega
  have es:iw j (upd D i x)=iw j D:=by simp only[iw];omega
  have er:ranks n (upd D i x) rk=ranks n D rk:=by
   funext k;simp only[ranks];by_cases e:k=i
   ·subst e;rw[al,h2]
   ·rw[ay D _ e]
  rw[ev,es,er];refine aR _ (aR _ ?_);simp only[jI];omega
end
section
variable [Payload] {P:aw} {ty:aJ} {o Wg C n:Nat} {SB:Blocks} {qw:Nat->Blocks->aL->ae->Prop} {K:aa->ae->Prop} {L0:Nat} {w0:ae} {gs:Array aa} {w w':ae} {sl:Option (Nat×Nat)} {j:Nat} {D:Nat->WX} {q:Nat->Nat} {tag:Tag} {f0 d0:Nat} {rk:Rank} {FM OM:Blocks} {a:aa} {t:aB}
theorem callerStep (qx:∀i F v w w1,qw i F v w->Ext F w w1->qw i F v w1) (ha:gs[0]?=some a) (dO:xu P ty o Wg C n SB qw j gs w t D q d0) (S:Sep Wg C SB j D FM OM w) {tag':Tag} {f':Nat} {A8:Rank} {xH xD:Blocks} {st' sm':Int} (hgo:au P true a w=.go a' w' es)
  (uF:MS P ty Wg C n qw K tag' f' (ax d0 es) A8 xH xD a' w') (S':Sep Wg C SB j D xH xD w')
  (gW:∀i,i<j->Ext (D i).F w w'/\RW ty Wg C n 0 i w w') (eT:w.heap.size<=w'.heap.size)
  (fu:∀op∈av 0 a.frame.fn a.frame.place es,Ok0 (ShP Wg SB) (qB o C j D) (RdD o j D) (o-1+j) op) (hm:∀e∈es,∀y,(aj e).touch?=some y->y.loc.isMemory=true)
  (yN:∀e∈es,e.loc≠.mark (.release (stA Wg))) (hl:∀e∈es,mE w'.heap.size (aj e)) (kV:bX C n w')
  (eU:WgAt ty Wg w' st' sm') (dM:Mo j (xd D) tag' st' sm') (eY:JT n tag' j) (Ak:Kept Wg C L0 w0 j D xD w')
  (dW:psi n (Vc j (xd D)) tag'<psi n (Vc j (xd D)) tag\/(psi n (Vc j (xd D)) tag'=psi n (Vc j (xd D)) tag/\Rank.sub A8 rk)\/(psi n (Vc j (xd D)) tag'=psi n (Vc j (xd D)) tag/\A8=rk/\f'<f0)):
  ∃m₁ ops μ',runT P (crowd gs w sl) 0=(.next m₁,ops)/\MLt (n+1) μ' (psi n (Vc j (xd D)) tag+iw j D,ranks n D rk,f0+2*jI j D+2*sumTo o q)/\sI P ty o Wg C n SB qw K L0 w0 μ' m₁ (t++ops):=by
 have dU:=dO.uU;have Gh:=eY.le;have dZ:=bj (P:=P) (sl:=sl) (i:=0) ha (show au P (0==0) a w=_ from hgo);have gF:=dO.step0 (fn:=a.frame.fn) (pos:=a.frame.place) qx S gW eT fu hm yN hl kV (a:=a) (a':=a');refine⟨_,_,_,dZ,?_,_,w',sl,j,D,q,tag',f',ax d0 es,A8,xH,xD,a',st',sm',rfl,bq _ _ _ (by rw[dO.size];omega),uF,gF,S',eU,dM,eY,Ak,rfl⟩;rcases dW with h|⟨h1,h2⟩|⟨h1,h2,h3⟩
 ·exact ba _ _ (by omega)
 ·rw[h1];refine aR _ (ba _ _ ⟨n,by omega,by simp only[ranks,if_true];exact h2,λk hk=>?_⟩);simp only[ranks];rw[if_neg hk,if_neg hk]
 ·rw[h1,h2];exact aR _ (aR _ (by omega))
theorem q5t (ha:gs[0]?=some a) (jM:MS P ty Wg C n qw K tag f0 d0 rk FM OM a w) (dO:xu P ty o Wg C n SB qw j gs w t D q d0) (S:Sep Wg C SB j D FM OM w) (eY:JT n tag j) (eP:Kept Wg C L0 w0 j D OM w)
  {st sm:Int} (eU:WgAt ty Wg w st sm) (dM:∀tag',(tag'=tag\/(tag=.blk/\tag'=.sm))->Mo j (xd D) tag' st sm) {k:Nat} (k0:0<k) (ko:k<o) (hg:gs[k]?=some g) (dZ:g.status=.running):
  ∃m₁ ops μ',runT P (crowd gs w sl) k=(.next m₁,ops)/\MLt (n+1) μ' (psi n (Vc j (xd D)) tag+iw j D,ranks n D rk,f0+2*jI j D+2*sumTo o q)/\sI P ty o Wg C n SB qw K L0 w0 μ' m₁ (t++ops):=by
 have hq:=dO.old k g k0 ko hg;cases MU:q k with
 |zero=>rw[MU]at hq;rw[hq.1]at dZ;cases dZ
 |succ q1=>
  rw[MU]at hq;rcases hq with⟨hf,_⟩|⟨_,g',es,hm,Cz,Cb⟩
  ·rw[hf]at dZ;cases dZ
  have o8:=bj (P:=P) (sl:=sl) (i:=k) hg (by rw[show(k==0)=false from by simp;omega];exact Cz w);obtain⟨tag',f',uF,Cj,qZ,JM⟩:=jM.wokenBy (ja w) g g';refine⟨_,_,_,o8,?_,_,w,sl,j,D,upd q k q1,tag',f',d0,rk,FM,OM,woken P g g' w a,st,sm,rfl,by rw[bg _ _ _ _ (by omega),ha];rfl,uF,dO.q6k S k0 ko hm Cb,S,eU,dM tag' qZ,eY.retag qZ,eP,rfl⟩;rw[Ri n _ qZ];have N8:sumTo o (upd q k q1)+(q1+1)=sumTo o q+q1:=by
   have:=sumTo_upd q q1 id ko;simpa[MU]using this
  exact aR _ (aR _ (by omega))
end
section
variable [Payload] {P:aw} {ty:aJ} {o Wg C n:Nat} {SB:Blocks} {qw:Nat->Blocks->aL->ae->Prop} {K:aa->ae->Prop} {L0:Nat} {w0:ae} {gs:Array aa} {w w':ae} {sl:Option (Nat×Nat)} {j:Nat} {D:Nat->WX} {q:Nat->Nat} {tag:Tag} {f0 d0:Nat} {rk:Rank} {FM OM:Blocks} {a:aa} {t:aB} {st sm:Int}
theorem P7 (hW:w'.heap[Wg]?=w.heap[Wg]?) (hC:w'.heap[C]?=w.heap[C]?):RW ty Wg C n 0 i w w':=
 ⟨λb hb=>absurd hb (aq b),λ⟨s,m,h⟩=>⟨s,m,by unfold WgAt at *; rw[hW];exact h⟩,λ⟨cs,h1,h2⟩=>⟨cs,by rw[hC];exact h1,h2⟩,cell_of_block hC i⟩
omit [Payload] in
theorem Mo.congr {D D':Nat->WD} {tag:Tag} (h:∀a,a<j->(D' a).stage=(D a).stage) (hm:Mo j D tag st sm):Mo j D' tag st sm:=by
 have hv:Vc j D'=Vc j D:=sumTo_congr λa ha=>by simp only[cnt,h a ha]
 cases hm with
 |opn h1 h2 h3=>rw[<-hv];exact .opn h1 (λa ha=>by rw[h a ha];exact h2 a ha) (λvs e=>by rw[hv];exact h3 vs e)
 |reg h1 h2 h3=>rw[<-hv];exact .reg h1 (λa ha=>by rw[h a ha];exact h2 a ha) (by rw[hv];exact h3)
 |last L h1 h2 h3 h4=>rw[<-h L h2];exact .last L h1 h2 (by rw[h L h2];exact h3) (λa ha e=>by rw[h a ha];exact h4 a ha e)
 |sema h1 h2=>exact .sema h1 λa ha=>by rw[h a ha];exact h2 a ha
 |fin h1 h2=>exact .fin h1 λa ha=>by rw[h a ha];exact h2 a ha
omit [Payload] in
theorem Mo.retag {D:Nat->WD} {tag tag':Tag} (h:Mo j D tag st sm) (e:tag'=tag\/(tag=.blk/\tag'=.sm)):Mo j D tag' st sm:=by
 rcases e with rfl|⟨rfl,rfl⟩
 ·exact h
 ·cases h with
  |opn h1 _ _=>exact h1.elim
  |reg _ h2 h3=>exact .reg trivial h2 h3
  |last L _ h2 h3 h4=>exact .last L trivial h2 h3 h4
  |sema h1 _=>rcases h1 with h1|h1<;>cases h1
  |fin h1 _=>exact h1.elim
omit [Payload] in
theorem Lr {F O:Blocks} (h:EvF F O e) {y:Touch} (hy:(aj e).touch?=some y):y.loc.isMemory=true/\y.kind=.plain/\ug F y.loc/\(y.write=true->ug O y.loc):=by
 obtain⟨loc,wt,sy⟩:=e;cases loc with
 |cell b=>
  obtain⟨h1,h2,h3⟩:=h;have h1:sy=false:=h1;subst h1;rw[bY]at hy;simp only[aM,aC]at hy;subst hy;exact⟨rfl,rfl,h2,h3⟩
 |obj r=>
  obtain⟨h1,h2,h3⟩:=h;have h1:sy=false:=h1;subst h1;have e0:aj ⟨.obj r,wt,false⟩=.access ⟨.obj r,wt,false⟩:=by cases wt<;>rfl
  rw[e0]at hy;simp only[aM,aC]at hy;subst hy;exact⟨rfl,rfl,h2,h3⟩
 |mark m=>
  cases m with
  |noRoom=>simp[aj,aM]at hy
  |_=>exact h.elim
 |_=>exact h.elim
omit [Payload] in
theorem Ae {F O:Blocks} (h:EvF F O e) (hB:∀b,F b->b<B):e.loc≠.mark .disable/\e.loc≠.mark .enable/\e.loc≠.mark (.release (stA Wg))/\(aj e).low B:=by
 have:=Il (SB:=λ_=>False) h (λ_ _ x=>x) hB;refine⟨this.2.1,this.2.2.1,λhl=>?_,this.2.2.2⟩;obtain⟨loc,wt,sy⟩:=e;have hl:loc=_:=hl;subst hl;exact h
end
section
variable [Payload] {P:aw} {ty:aJ} {o Wg C n:Nat} {SB:Blocks} {qw:Nat->Blocks->aL->ae->Prop} {K:aa->ae->Prop} {L0:Nat} {w0:ae} {gs:Array aa} {w w':ae} {sl:Option (Nat×Nat)} {j:Nat} {D:Nat->WX} {q:Nat->Nat} {tag:Tag} {f0 d0:Nat} {rk:Rank} {FM OM:Blocks} {a:aa} {t:aB} {st sm:Int}
omit [Payload] in
theorem Sep.stepW (S:Sep Wg C SB j D FM OM w) (hi:i<j) {x:WX} (eT:w.heap.size<=w'.heap.size) (jK:∀b,x.F b->(D i).F b\/w.heap.size<=b) (vN:∀b,x.O b->(D i).O b\/w.heap.size<=b) (fe:∀b,x.O b->x.F b) (mV:∀b,x.F b->b<w'.heap.size):Sep Wg C SB j (upd D i x) FM OM w':=by
 have lW:=S.lW;have lC:=S.lC;refine⟨λi' eX b hb=>?_,λi' eX b hb=>?_,λi1 i2 h1 h2 eD b hb fJ=>?_,λb hb=>?_,λb hb=>?_,xll S.lW eT,xll S.lC eT,λb hb=>xll (S.lS b hb) eT,S.hCW,S.sW,S.sC⟩
 ·by_cases e:i'=i
  ·subst e;rw[al]at hb;refine⟨mV b hb,?_⟩;rcases jK b hb with h|h
   ·exact(S.wF i' eX b h).2
   ·exact⟨by omega,by omega,λhs=>by have:=S.lS b hs;omega⟩
  ·rw[ay D _ e]at hb;have:=S.wF i' eX b hb;exact⟨by omega,this.2⟩
 ·by_cases e:i'=i
  ·subst e;rw[al]at hb⊢;exact fe b hb
  ·rw[ay D _ e]at hb⊢;exact S.wO i' eX b hb
 ·by_cases e1:i1=i
  ·subst e1;rw[al]at hb;rw[ay D _ (λh=>eD h.symm)]at fJ;rcases vN b hb with h|h
   ·exact S.apart _ _ h1 h2 eD b h fJ
   ·have:=(S.wF i2 h2 b fJ).1;omega
  ·rw[ay D _ e1]at hb;by_cases e2:i2=i
   ·subst e2;rw[al]at fJ;rcases jK b fJ with h|h
    ·exact S.apart _ _ h1 h2 eD b hb h
    ·have:=(S.wF i1 h1 b (S.wO i1 h1 b hb)).1;omega
   ·rw[ay D _ e2]at fJ;exact S.apart _ _ h1 h2 eD b hb fJ
 ·have:=S.mF b hb;refine⟨by omega,this.2.1,this.2.2.1,this.2.2.2.1,λi' eX ho=>?_⟩;by_cases e:i'=i
  ·subst e;rw[al]at ho;rcases vN b ho with h|h
   ·exact this.2.2.2.2 i' eX h
   ·omega
  ·rw[ay D _ e]at ho;exact this.2.2.2.2 i' eX ho
 ·have h1:=S.mO b hb;have h2:=S.mF b h1.1;refine⟨h1.1,λi' eX hf=>?_⟩;by_cases e:i'=i
  ·subst e;rw[al]at hf;rcases jK b hf with h|h
   ·exact h1.2 i' eX h
   ·omega
  ·rw[ay D _ e]at hf;exact h1.2 i' eX hf
omit [Payload] in
theorem Kept.stepW (h:Kept Wg C L0 w0 j D OM w) {x:WX} (JU:L0<=w.heap.size) (G7:∀b,b<L0->w'.heap[b]?=w.heap[b]?) (vN:∀b,x.O b->(D i).O b\/w.heap.size<=b) (ht:w'.tape=w.tape) (hos:w'.os=w.os) (Oe:w'.output=w.output) (mJ:NB w->NB w'):Kept Wg C L0 w0 j (upd D i x) OM w':=by
 refine⟨λb hb=>(G7 b hb).trans (h.keep b hb),h.lW,h.lC,λi' eX b hb=>?_,h.lM,ht.trans h.tape,hos.trans h.os,Oe.trans h.output,λx=>mJ (h.nb x)⟩;by_cases e:i'=i
 ·subst e;rw[al]at hb;rcases vN b hb with y|y
  ·exact h.lO i' eX b y
  ·omega
 ·rw[ay D _ e]at hb;exact h.lO i' eX b hb
theorem q5v (qx:∀i F v w w1,qw i F v w->Ext F w w1->qw i F v w1) (ha:gs[0]?=some a) (jM:MS P ty Wg C n qw K tag f0 d0 rk FM OM a w) (dO:xu P ty o Wg C n SB qw j gs w t D q d0) (S:Sep Wg C SB j D FM OM w) (eY:JT n tag j) (eP:Kept Wg C L0 w0 j D OM w)
  (eU:WgAt ty Wg w st sm) (dM:Mo j (xd D) tag st sm) (hi:i<j) (hg:gs[o+i]?=some g) (h9:(D i).stage=9) (hd:(D i).deaf=0) {f:ae->Rank} (MR:(D i).rank=.node f)
  (hw:WGo P false (Dx P ty Wg C n qw i) (.node f) (D i).F (D i).O g w):
  ∃m₁ ops μ',runT P (crowd gs w sl) (o+i)=(.next m₁,ops)/\MLt (n+1) μ' (psi n (Vc j (xd D)) tag+iw j D,ranks n D rk,f0+2*jI j D+2*sumTo o q)/\sI P ty o Wg C n SB qw K L0 w0 μ' m₁ (t++ops):=by
 obtain⟨F',O',g',w',es,hgo,ok,qL⟩:=hw.2 w (Ext.refl ..);have lW:=S.lW;have lC:=S.lC;have nO:∀b,(D i).O b->b≠Wg/\b≠C:=λb hb=>⟨(S.wF i hi b (S.wO i hi b hb)).2.1,(S.wF i hi b (S.wO i hi b hb)).2.2.1⟩
 have hW:w'.heap[Wg]?=w.heap[Wg]?:=ok.keep Wg lW λh=>(nO Wg h).1 rfl;have hC:w'.heap[C]?=w.heap[C]?:=ok.keep C lC λh=>(nO C h).2 rfl
 let x:WX:=⟨9,0,0,f w,F',O',(D i).val⟩
 have S':Sep Wg C SB j (upd D i x) FM OM w':=S.stepW hi (x:=x) ok.size ok.new ok.Ba ok.own ok.low;have gN:WgAt ty Wg w' st sm:=by unfold WgAt at *; rw[hW];exact eU
 refine workerStep qx ha jM dO S eY eP hi hg hgo (x:=x) S' ⟨⟨ok.size,λb hb=>ok.keep b (S.mF b hb).1 ((S.mF b hb).2.2.2.2 i hi)⟩,λ_=>⟨_,_,gN⟩⟩
  (λi' eX eD=>⟨⟨ok.size,λb hb=>ok.keep b (S.wF i' eX b hb).1 λho=>S.apart i i' hi eX (λe=>eD e.symm) b ho hb⟩,P7 hW hC⟩)
  (.own rfl rfl rfl qL) ok.size ok.sub ok.Tj ok.new ok.Ba (λe he y hy=>?_) (λe he=>(Ae (ok.ev e he) ok.low).2.2.1) (λe he=>BL (Ae (Wg:=Wg) (ok.ev e he) ok.low).2.2.2)
  ?_ (λh=>absurd (show 9<=6 from h) (by decide)) (λh=>absurd (show 9<=6 from h) (by decide)) ?_ gN (λtag' ht _=>(dM.congr λa' _=>?_).retag ht) ?_ (.inr (.inl ⟨h9.symm,by rw[MR];exact⟨w,rfl⟩⟩))
 ·obtain⟨h1,h2,h3,h4⟩:=Lr (ok.ev e he) hy;refine⟨h1,.inr ⟨h2,?_⟩⟩;by_cases ho:ug O' y.loc
  ·exact .inl ⟨i,hi,rfl,.inl (by rw[al];exact ho)⟩
  ·refine .inr ⟨⟨i,hi,rfl,?_⟩,by cases hyw:y.write with|false=>rfl|true=>exact absurd (h4 hyw) ho⟩;rw[al];show ug (λb=>F' b/\¬O' b) y.loc;generalize y.loc=l at h3 ho;cases l with
   |cell c=>exact⟨h3,ho⟩
   |obj c=>exact⟨h3,ho⟩
   |_=>exact h3.elim
 ·rw[hd];exact deafBehind_idle (λe he=>⟨(Ae (Wg:=Wg) (ok.ev e he) ok.low).1,(Ae (Wg:=Wg) (ok.ev e he) ok.low).2.1⟩) 0
 ·obtain⟨cs,h1,h2⟩:=dO.pay;exact⟨cs,by rw[hC];exact h1,h2⟩
 ·by_cases e:a'=i
  ·subst e;simp only[xd,al,h9,x]
  ·simp only[xd];rw[ay D _ e]
 ·exact eP.stepW (x:=x) (xlt eP.lW (bE lW)) (λb hb=>ok.keep b (xll hb (xlt eP.lW (bE lW))) λho=>by have:=eP.lO i hi b ho;omega) ok.Ba ok.tape ok.os ok.output ok.nb
end
end
section
open Go Go.Conc Go.ConcN Sim
open Go.ConcR (KK WgAt stA smA rd wr mk Payload DC0 g_of_ofEvents Bk bk_of_mute ofEvent_loc_mark ofEvent_cell)
section
variable [Payload] {C n i:Nat} {w:ae}
theorem YS (hp:bX C n w) (v:aL):AsideCell C n i w (w.setCell ⟨C,i,none⟩ v):=by
 have hA:=aI w ⟨C,i,none⟩ v;obtain⟨arr,h1,h2⟩:=hp;have hb:(w.setCell ⟨C,i,none⟩ v).heap[C]?=some (.cells (arr.setIfInBounds i v) Payload.ety):=by
  rw[ce w C i arr _ (0,0) _ h1,setRow_heap w C _ _ _ _ h1]
 refine⟨hA.tape,hA.os,hA.output,hA.size,λb fH=>hA.block b fH,λ_=>⟨_,hb,by simpa using h2⟩,λi' eX=>?_⟩;simp[World.cell?,hb,h1,xne (Ne.symm eX)]
theorem q3y (hp:bX C n w) (hj:i<n) (v:aL):Has C i v (w.setCell ⟨C,i,none⟩ v):=by
 obtain⟨arr,h1,h2⟩:=hp;have hb:(w.setCell ⟨C,i,none⟩ v).heap[C]?=some (.cells (arr.setIfInBounds i v) Payload.ety):=by
  rw[ce w C i arr _ (0,0) _ h1,setRow_heap w C _ _ _ _ h1]
 simp[Has,World.cell?,hb,h2,hj]
omit [Payload] in
theorem q47 (hW:Wg<B) (h:Bk Wg e):mE B (aj e):=by
 intro y hy;rcases h with h1|h1|⟨a,wr,rfl,ha⟩
 ·rw[ofEvent_loc_mark h1]at hy;cases hy
 ·rw[ofEvent_loc_mark h1]at hy;cases hy
 ·rw[ofEvent_cell]at hy;simp only[aM,aC]at hy;subst hy;show a.block<B;omega
end
section
variable [Payload] {P:aw} {ty:aJ} {o Wg C n:Nat} {SB:Blocks} {qw:Nat->Blocks->aL->ae->Prop} {K:aa->ae->Prop} {L0:Nat} {w0:ae} {gs:Array aa} {w w':ae} {sl:Option (Nat×Nat)} {j:Nat} {D:Nat->WX} {q:Nat->Nat} {tag:Tag} {f0 d0:Nat} {rk:Rank} {FM OM:Blocks} {a:aa} {t:aB} {st sm:Int}
omit [Payload] in
theorem Sep.same (S:Sep Wg C SB j D FM OM w) (hi:i<j) {x:WX} (hF:x.F=(D i).F) (hO:x.O=(D i).O) (eT:w.heap.size<=w'.heap.size):Sep Wg C SB j (upd D i x) FM OM w':=
 S.stepW hi eT (λb hb=>.inl (hF▸hb)) (λb hb=>.inl (hO▸hb)) (λb hb=>by rw[hF];rw[hO]at hb;exact S.wO i hi b hb) (λb hb=>by rw[hF]at hb;have:=(S.wF i hi b hb).1;omega)
theorem Ws (qx:∀i F v w w1,qw i F v w->Ext F w w1->qw i F v w1) (ha:gs[0]?=some a) (jM:MS P ty Wg C n qw K tag f0 d0 rk FM OM a w) (dO:xu P ty o Wg C n SB qw j gs w t D q d0) (S:Sep Wg C SB j D FM OM w) (eY:JT n tag j) (eP:Kept Wg C L0 w0 j D OM w)
  (eU:WgAt ty Wg w st sm) (dM:Mo j (xd D) tag st sm) (hi:i<j) (hg:gs[o+i]?=some g) (h9:(D i).stage=9) (hd:(D i).deaf=0)
  (hs:Dx P ty Wg C n qw i (D i).F (D i).O g w):
  ∃m₁ ops μ',runT P (crowd gs w sl) (o+i)=(.next m₁,ops)/\MLt (n+1) μ' (psi n (Vc j (xd D)) tag+iw j D,ranks n D rk,f0+2*jI j D+2*sumTo o q)/\sI P ty o Wg C n SB qw K L0 w0 μ' m₁ (t++ops):=by
 obtain⟨_,v,rq,hx⟩:=hs;obtain⟨g',hgo,m,hk⟩:=hx w (Ext.refl ..) dO.pay ⟨_,_,eU⟩;have lW:=S.lW;have lC:=S.lC;have hA:AsideCell C n i w (w.setCell ⟨C,i,none⟩ v):=YS dO.pay v
 let x:WX:=⟨7,m,0,.leaf,(D i).F,(D i).O,v⟩
 have S':Sep Wg C SB j (upd D i x) FM OM (w.setCell ⟨C,i,none⟩ v):=S.same hi (x:=x) rfl rfl (by rw[hA.size];exact jm _);have gN:WgAt ty Wg (w.setCell ⟨C,i,none⟩ v) st sm:=eU.of_block (hA.block Wg (Ne.symm S.hCW));have kX:∀{F:Blocks},¬F C->Ext F w (w.setCell ⟨C,i,none⟩ v):=λhn=>⟨by rw[hA.size];exact jm _,λb hb=>hA.block b λe=>hn (e▸hb)⟩
 have UB:∀i',i'<j->¬(D i').F C:=λi' eX h=>(S.wF i' eX C h).2.2.1 rfl;refine workerStep qx ha jM dO S eY eP hi hg hgo (x:=x) S' ⟨kX λh=>(S.mF C h).2.2.1 rfl,λ_=>⟨_,_,gN⟩⟩
  (λi' eX eD=>⟨kX (UB i' eX),RW.of_cell hA eD S.hCW⟩)
  (.lib (.r0 hk) (qx _ _ _ _ _ rq (kX (UB i hi)))) (by rw[hA.size];exact jm _) (λ_ h=>h) (λ_ h=>h) (λ_ h=>.inl h) (λ_ h=>.inl h) (λe he y hy=>?_) (λe he=>?_) (λe he y hy=>?_)
  ?_ (λh=>absurd (show 7<=6 from h) (by decide)) (λh=>absurd (show 7<=6 from h) (by decide)) (hA.pay dO.pay) gN (λtag' ht _=>(dM.congr λa' _=>?_).retag ht) ?_ (.inl ⟨by rw[h9];exact(by decide:7<9),?_⟩)
 ·simp only[aX,aY]at he;subst he;rw[bY]at hy;simp only[aM,aC]at hy;subst hy;exact⟨rfl,.inr ⟨rfl,.inl ⟨i,hi,rfl,.inr rfl⟩⟩⟩
 ·simp only[aX,aY]at he;subst he;simp
 ·simp only[aX,aY]at he;subst he;rw[bY]at hy;simp only[aM,aC]at hy;subst hy;show C<_;rw[hA.size];exact lC
 ·rw[hd];rfl
 ·by_cases e:a'=i
  ·subst e;simp only[xd,al,h9,x];decide
  ·simp only[xd];rw[ay D _ e]
 ·refine eP.stepW (x:=x) (xlt eP.lW (bE lW)) (λb hb=>hA.block b λe=>?_) (λb hb=>.inl hb) hA.tape hA.os hA.output (Jd hA.block (let⟨_,h,_⟩:=hA.pay dO.pay;⟨_,_,_,h⟩));have:=eP.lC;omega
 ·simp only[xd,al,h9,x];simp[cnt]
end
theorem Im (D:Nat->WX) (i:Nat) (x:WX):xd (upd D i x)=upd (xd D) i ⟨if x.stage=9 then 7 else x.stage,x.fuel,x.deaf⟩:=by
 funext k;by_cases e:k=i
 ·subst e;simp only[xd,al]
 ·rw[ay (xd D) _ e];simp only[xd];rw[ay D _ e]
theorem JT.bound {tag:Tag} (h:JT n tag j):j+kK tag<=n:=by
 cases tag<;>simp only[JT,kK]at h⊢<;>omega
section
variable {j i:Nat} {D:Nat->WD} {tag:Tag} {st sm:Int}
theorem Mo.same (hm:Mo j D tag st sm) (m' lN:Nat):Mo j (upd D i ⟨(D i).stage,m',lN⟩) tag st sm:=
 hm.congr λa _=>by
  by_cases e:a=i
  ·subst e;rw[al]
  ·rw[ay D _ e]
theorem Mo.counted (hm:Mo j D tag st sm) (hi:i<j) (h5:5<=(D i).stage) {s':Nat} (hs:s'=6\/s'=5) (m' lN:Nat):Mo j (upd D i ⟨s',m',lN⟩) tag st sm:=by
 have hv:Vc j (upd D i ⟨s',m',lN⟩)=Vc j D:=by
  have:=Vc_upd D (⟨s',m',lN⟩:WD) hi;have c1:cnt (D i)=1:=by simp[cnt,h5]
  have c2:cnt (⟨s',m',lN⟩:WD)=1:=by rcases hs with rfl|rfl<;>simp[cnt]
  omega
 have ho:OpenSt j D->OpenSt j (upd D i ⟨s',m',lN⟩):=λh a ha=>by
  by_cases e:a=i
  ·subst e;rw[al];rcases hs with rfl|rfl<;>simp
  ·rw[ay D _ e];exact h a ha
 cases hm with
 |opn h1 h2 h3=>rw[<-hv];exact .opn h1 (ho h2) (λvs e=>by rw[hv];exact h3 vs e)
 |reg h1 h2 h3=>rw[<-hv];exact .reg h1 (ho h2) (by rw[hv];exact h3)
 |last L h1 h2 h3 h4=>
  by_cases e:i=L
  ·subst e;omega
  ·have:=h4 i hi e;omega
 |sema _ h2=>have:=h2 i hi;omega
 |fin h1 h2=>have:=h2 i hi;omega
theorem Mo.isLast (hm:Mo j D tag st sm) (hi:i<j) (h:(D i).stage=4\/(D i).stage=3\/(D i).stage=2):
  Kq tag/\(∀a,a<j->a≠i->(D a).stage=1)/\st=(if(D i).stage=2 then 0 else 1)/\sm=0:=by
 cases hm with
 |opn _ h2 _=>have:=h2 i hi;omega
 |reg _ h2 _=>have:=h2 i hi;omega
 |last L h1 h2 h3 h4=>
  by_cases e:i=L
  ·subst e;exact⟨h1,h4,rfl,rfl⟩
  ·have:=h4 i hi e;omega
 |sema _ h2=>have:=h2 i hi;omega
 |fin _ h2=>have:=h2 i hi;omega
end
section
variable [Payload] {P:aw} {ty:aJ} {o Wg C n:Nat} {SB:Blocks} {qw:Nat->Blocks->aL->ae->Prop} {K:aa->ae->Prop} {L0:Nat} {w0:ae} {gs:Array aa} {w w':ae} {sl:Option (Nat×Nat)} {j:Nat} {D:Nat->WX} {q:Nat->Nat} {tag:Tag} {f0 d0:Nat} {rk:Rank} {FM OM:Blocks} {a:aa} {t:aB} {st sm:Int}
omit [Payload] in
theorem Wp {x:bi} (h:Bk Wg x) {y:Touch} (hy:(aj x).touch?=some y):y.loc.isMemory=true/\ShP Wg SB y.loc/\y.kind=.atomic:=by
 rcases h with h1|h1|⟨b,wr,rfl,hb⟩
 ·rw[ofEvent_loc_mark h1]at hy;cases hy
 ·rw[ofEvent_loc_mark h1]at hy;cases hy
 ·rw[ofEvent_cell]at hy;simp only[aM,aC]at hy;subst hy;exact⟨rfl,⟨b,rfl,.inr hb⟩,rfl⟩
theorem q46 (qx:∀i F v w w1,qw i F v w->Ext F w w1->qw i F v w1) (hn:n<2147483648) (ha:gs[0]?=some a) (jM:MS P ty Wg C n qw K tag f0 d0 rk FM OM a w) (dO:xu P ty o Wg C n SB qw j gs w t D q d0) (S:Sep Wg C SB j D FM OM w) (eY:JT n tag j) (eP:Kept Wg C L0 w0 j D OM w)
  (eU:WgAt ty Wg w st sm) (dM:Mo j (xd D) tag st sm) (hi:i<j) (hg:gs[o+i]?=some g) (dZ:g.status=.running)
  (hs:WSit P ty Wg C n pM pM 0 (i+1) (D i).val (D i).stage (D i).fuel (D i).deaf g w) (rq:qw i (D i).F (D i).val w):
  ∃m₁ ops μ',runT P (crowd gs w sl) (o+i)=(.next m₁,ops)/\MLt (n+1) μ' (psi n (Vc j (xd D)) tag+iw j D,ranks n D rk,f0+2*jI j D+2*sumTo o q)/\sI P ty o Wg C n SB qw K L0 w0 μ' m₁ (t++ops):=by
 have lW:=S.lW;have lC:=S.lC;have hCW:=S.hCW;have dU:=dO.uU;have hb:=eY.bound;have J2:=Vc_le j (xd D);have kL:=eP.lW;have kC:=eP.lC;have mW:¬FM Wg:=λh=>(S.mF Wg h).2.1 rfl;have mC:¬FM C:=λh=>(S.mF C h).2.2.1 rfl;have wW:∀i',i'<j->¬(D i').F Wg:=λi' h' h=>(S.wF i' h' Wg h).2.1 rfl;have wC:∀i',i'<j->¬(D i').F C:=λi' h' h=>(S.wF i' h' C h).2.2.1 rfl;generalize hst:(D i).stage=s at hs;generalize Nb:(D i).fuel=m at hs;generalize Gn:(D i).deaf=dd at hs;have Uo:Deaf t (o+i)=dd:=by rw[dO.deafW i hi,Gn]
 have Vi:s≠9:=by rintro rfl;cases hs
 have xI:(xd D i).stage=s:=by simp only[xd,hst];rw[if_neg Vi]
 have xfu:(xd D i).fuel=m:=Nb;have xde:(xd D i).deaf=dd:=Gn
 -- A OW OF THE Eb AY:at most the Kc block turns
 have AX:∀{g':aa} {w':ae} {es:Array bi} {s' m' lN:Nat} {st' sm':Int},au P false g w=.go g' w' es->Aside Wg w w'->WgAt ty Wg w' st' sm'->(∀e∈es,Bk Wg e)->
   (∀jx e,es[jx]?=some e->(aj e).touch?=none\/0<ax dd (es.extract 0 jx))->WSit P ty Wg C n pM pM 0 (i+1) (D i).val s' m' lN g' w'->ax dd es=lN->s<=6->s'<=7->
   (∀tag',(tag'=tag\/(tag=.blk/\tag'=.sm))->(mayWake P g=true->g'.status=.running->tag'≠.blk)->Mo j (upd (xd D) i ⟨s',m',lN⟩) tag' st' sm')->((s'<s/\cnt ⟨s',m',lN⟩<=cnt (xd D i))\/(s'=s/\m'+1=m))->
   ∃m₁ ops μ',runT P (crowd gs w sl) (o+i)=(.next m₁,ops)/\MLt (n+1) μ' (psi n (Vc j (xd D)) tag+iw j D,ranks n D rk,f0+2*jI j D+2*sumTo o q)/\sI P ty o Wg C n SB qw K L0 w0 μ' m₁ (t++ops):=by
  intro g' w' es s' m' lN st' sm' hgo nE gN Ap hd l6 Nh h6 h7 lD dW;obtain⟨cs,OG,OE⟩:=dO.pay;have eT:w.heap.size<=w'.heap.size:=by rw[nE.size];exact jm _
  have kX:∀{F:Blocks},¬F Wg->Ext F w w':=λhn=>⟨eT,λb hb=>nE.block b λe=>hn (e▸hb)⟩
  let x:WX:=⟨s',m',lN,(D i).rank,(D i).F,(D i).O,(D i).val⟩
  have ex:xd (upd D i x)=upd (xd D) i ⟨s',m',lN⟩:=by rw[Im];show upd (xd D) i (⟨if s'=9 then 7 else s',m',lN⟩:WD)=_;rw[if_neg (by omega)]
  refine workerStep qx ha jM dO S eY eP hi hg hgo (x:=x) (S.same hi rfl rfl eT) ⟨kX mW,λ_=>⟨_,_,gN⟩⟩ (λi' eX eD=>⟨kX (wW i' eX),RW.of_wg nE ⟨_,_,gN⟩ hCW⟩)
   (.lib l6 (qx _ _ _ _ _ rq (kX (wW i hi)))) eT (λ_ h=>h) (λ_ h=>h) (λ_ h=>.inl h) (λ_ h=>.inl h)
   (λe he y hy=>let⟨h1,h2,h3⟩:=Wp (Ap e he) hy;⟨h1,.inl ⟨h2,h3⟩⟩) (λe he=>(norel_of_Bk Ap) e he) (λe he=>q47 (by omega) (Ap e he))
   (by rw[Gn];exact Nh) (λ_=>let⟨r,hr⟩:=dO.rel i hi (by omega);⟨r,hr.book Uo _ _ Ap hd⟩) (λ_=>(cell_of_block (nE.block C hCW) i).trans (dO.has i hi (by omega))) ⟨cs,(nE.block C hCW).trans OG,OE⟩ gN
   (λtag' ht hw=>by rw[ex];exact lD tag' ht hw) (eP.stepW (by omega) (λb hb=>nE.block b (by omega)) (λ_ h=>.inl h) nE.tape nE.os nE.output (Jd nE.block ⟨_,_,_,gN⟩)) ?_
  rcases dW with⟨h1,h2⟩|⟨h1,h2⟩
  ·refine .inl ⟨by rw[hst];exact h1,?_⟩;rw[ex,al];exact h2
  ·exact .inr (.inr ⟨by rw[hst];exact h1,rfl,by rw[Nb];exact h2⟩)
 have book:∀{g':aa} {w':ae} {es:Array bi} {s' m' lN:Nat} {st' sm':Int},au P false g w=.go g' w' es->Aside Wg w w'->WgAt ty Wg w' st' sm'->(∀e∈es,Bk Wg e)->
   (∀jx e,es[jx]?=some e->(aj e).touch?=none\/0<ax dd (es.extract 0 jx))->WSit P ty Wg C n pM pM 0 (i+1) (D i).val s' m' lN g' w'->ax dd es=lN->s<=6->s'<=7->
   Mo j (upd (xd D) i ⟨s',m',lN⟩) tag st' sm'->((s'<s/\cnt ⟨s',m',lN⟩<=cnt (xd D i))\/(s'=s/\m'+1=m))->
   ∃m₁ ops μ',runT P (crowd gs w sl) (o+i)=(.next m₁,ops)/\MLt (n+1) μ' (psi n (Vc j (xd D)) tag+iw j D,ranks n D rk,f0+2*jI j D+2*sumTo o q)/\sI P ty o Wg C n SB qw K L0 w0 μ' m₁ (t++ops):=
  λhgo nE gN Ap hd l6 Nh h6 h7 lD dW=>AX hgo nE gN Ap hd l6 Nh h6 h7 (λ_ ht _=>lD.retag ht) dW
 -- AN IDLE OW OZ THE Ke:nothing turns,nothing is listed
 have idle:∀{g':aa} {m':Nat},au P false g w=.go g' w #[]->WSit P ty Wg C n pM pM 0 (i+1) (D i).val s m' dd g' w->m'+1=m->s<=6->
   ∃m₁ ops μ',runT P (crowd gs w sl) (o+i)=(.next m₁,ops)/\MLt (n+1) μ' (psi n (Vc j (xd D)) tag+iw j D,ranks n D rk,f0+2*jI j D+2*sumTo o q)/\sI P ty o Wg C n SB qw K L0 w0 μ' m₁ (t++ops):=by
  intro g' m' hgo l6 hm h6;exact book hgo (.refl Wg w) eU (by simp) (by simp) l6 rfl h6 (by omega) (by have:=dM.same (i:=i) m' dd;rwa [xI]at this) (.inr ⟨rfl,hm⟩)
 cases hs with
 |r0 h=>
  rcases az h with eu|⟨m',rfl,dH⟩
  ·obtain⟨_,jP,g',hgo,m₂,hk⟩:=eu w (bh w)
   let x:WX:=⟨6,m₂,0,(D i).rank,(D i).F,(D i).O,(D i).val⟩
   have ex:xd (upd D i x)=upd (xd D) i ⟨6,m₂,0⟩:=by rw[Im];rfl
   refine workerStep qx ha jM dO S eY eP hi hg hgo (x:=x) (S.same hi rfl rfl (jm _)) (ja w) (λi' eX eD=>⟨Ext.refl ..,bh w⟩)
    (.lib (.k1 hk) rq) (jm _) (λ_ h=>h) (λ_ h=>h) (λ_ h=>.inl h) (λ_ h=>.inl h)
    (λe he y hy=>by simp at he;subst he;cases hy) (λe he=>by simp at he;subst he;simp[mk]) (λe he y hy=>by simp at he;subst he;cases hy)
    (by rw[Gn];rfl) (λ_=>⟨t.size,RelBy.new Uo _ _⟩) (λ_=>by simpa using jP) dO.pay eU
    (λtag' ht hw=>by rw[ex];exact(dM.counted hi (by omega) (.inl rfl) _ _).retag ht) (eP.stepW (by omega) (λ_ _=>rfl) (λ_ h=>.inl h) rfl rfl rfl id) (.inl ⟨by rw[hst];exact(by decide:6<7),?_⟩)
   rw[ex,al];simp[cnt,xI]
  ·obtain⟨g',w',es,hgo,⟨uD,kF⟩,fU⟩:=dH w (bh w);simp only[Nat.add_sub_cancel]at uD;have eT:w.heap.size<=w'.heap.size:=by rw[uD.size];exact jm _
   have kX:∀{F:Blocks},¬F C->Ext F w w':=λhn=>⟨eT,λb hb=>uD.block b λe=>hn (e▸hb)⟩
   have gN:WgAt ty Wg w' st sm:=eU.of_block (uD.block Wg (Ne.symm hCW));have O7:∀e∈es,∀y,(aj e).touch?=some y->∃b,y.loc=.cell b/\b.block=Wg/\y.kind=.atomic:=λe he y hy=>by
    rcases((kF e he).1 (0:Nat) "").2 y hy with⟨⟨b,h1,h2⟩,h3,h4⟩|h1|⟨h1,_⟩
    ·refine⟨b,h1,h2,?_⟩;cases hk:y.kind with
     |atomic=>rfl
     |plain=>exact absurd hk h3
     |said=>exact absurd hk h4
    ·exact h1.elim
    ·exact h1.elim
   let x:WX:=⟨7,m',0,(D i).rank,(D i).F,(D i).O,(D i).val⟩
   have ex:xd (upd D i x)=upd (xd D) i ⟨7,m',0⟩:=by rw[Im];rfl
   refine workerStep qx ha jM dO S eY eP hi hg hgo (x:=x) (S.same hi rfl rfl eT) ⟨kX mC,λ_=>⟨_,_,gN⟩⟩ (λi' eX eD=>⟨kX (wC i' eX),RW.of_cell uD eD hCW⟩)
    (.lib (.r0 fU) (qx _ _ _ _ _ rq (kX (wC i hi)))) eT (λ_ h=>h) (λ_ h=>h) (λ_ h=>.inl h) (λ_ h=>.inl h)
    (λe he y hy=>?_) (λe he=>(kF e he).2.2.2) (λe he y hy=>?_)
    (by rw[Gn];exact deafBehind_idle (λe he=>⟨(kF e he).2.1,(kF e he).2.2.1⟩) 0) (λh=>absurd (show 7<=6 from h) (by decide)) (λh=>absurd (show 7<=6 from h) (by decide)) (uD.pay dO.pay) gN
    (λtag' ht hw=>by rw[ex];exact Mo.retag (by have:=dM.same (i:=i) m' 0;rwa [xI]at this) ht) (eP.stepW (by omega) (λb hb=>uD.block b (by omega)) (λ_ h=>.inl h) uD.tape uD.os uD.output (Jd uD.block (let⟨_,h,_⟩:=uD.pay dO.pay;⟨_,_,_,h⟩)))
    (.inr (.inr ⟨hst.symm,rfl,Nb.symm⟩))
   ·obtain⟨b,h1,h2,h3⟩:=O7 e he y hy;rw[h1];exact⟨rfl,.inl ⟨⟨b,rfl,.inr h2⟩,h3⟩⟩
   ·obtain⟨b,h1,h2,h3⟩:=O7 e he y hy;rw[h1];show b.block<_;omega
 |k1 h=>
  rcases az h with eu|⟨m',rfl,dH⟩
  ·obtain⟨_,g',hgo,m₂,hk⟩:=eu w (bh w);exact book hgo (.refl Wg w) eU (by intro e he;simp at he;subst he;exact .inl rfl) (by intro jx e he;exact .inl (by have:=bd he;simp at this;subst this;rfl)) (.d1 hk) rfl (by omega) (by omega)
    (dM.counted hi (by omega) (.inr rfl) _ _) (.inl ⟨by omega,by simp[cnt,xI]⟩)
  ·obtain⟨g',w',es,hgo,⟨rfl,rfl⟩,fU⟩:=dH w (bh w);exact idle hgo (.k1 fU) rfl (by omega)
 |d1 h=>
  rcases az h with eu|⟨m',rfl,dH⟩
  ·obtain⟨_,fE⟩:=eu w (bh w);have iZ:cnt (xd D i)=1:=by simp[cnt,xI]
   have hV1:1<=Vc j (xd D):=by have:=le_sumTo (f:=λx=>cnt (xd D x)) hi;simp only[Vc];omega
   have bk2:∀e∈#[rd (stA Wg),wr (stA Wg)],Bk Wg e:=by intro e he;simp at he;rcases he with rfl|rfl<;>exact bk_cell _ _ rfl
   have ND:∀jx e,(#[rd (stA Wg),wr (stA Wg)]:Array bi)[jx]?=some e->(aj e).touch?=none\/0<ax 1 ((#[rd (stA Wg),wr (stA Wg)]:Array bi).extract 0 jx):=by
    intro jx e he;match jx,he with
    |0,_=>exact .inr (by simp[ax])
    |1,_=>exact .inr (by simp[ax,rd])
    |jx+2,he=>simp at he
   have Ua:∀q,cnt (⟨1,q,1⟩:WD)=0:=λ_=>rfl;have Tg:∀q,OpenSt j (xd D)->OpenSt j (upd (xd D) i ⟨1,q,1⟩):=λq h a ha=>by
    by_cases e:a=i
    ·subst e;rw[al];simp
    ·rw[ay (xd D) _ e];exact h a ha
   cases dM with
   |opn h1 h2 h3=>
    obtain⟨v,hv⟩:∃v,Vc j (xd D)+kK tag=v+1:=⟨Vc j (xd D)+kK tag-1,by omega⟩
    rw[hv]at eU;have yH:WgAt ty Wg w (((v:Nat)+1)*KK+((0:Nat):Int)) 0:=by simpa using eU
    obtain⟨g',hgo,_,hq⟩:=fE v 0 (by omega) (by omega) yH;obtain⟨q,hq⟩:=hq (by omega);have JO:Vc j (upd (xd D) i ⟨1,q,1⟩)+kK tag=v:=by have:=Vc_upd (xd D) (⟨1,q,1⟩:WD) hi;have:=Ua q;omega
    refine book hgo (aI w (stA Wg) _) (eU.setSt _) bk2 ND (.quit hq) rfl (by omega) (by omega) ?_ (.inl ⟨by omega,by simp[cnt]⟩);have e:((v:Nat):Int)*KK+((0:Nat):Int)=((Vc j (upd (xd D) i ⟨1,q,1⟩)+kK tag:Nat):Int)*KK:=by rw[JO];simp
    rw[e];exact .opn h1 (Tg q h2) (λvs ev=>by have:=h3 vs ev;omega)
   |reg h1 h2 h3=>
    obtain⟨v,hv⟩:∃v,Vc j (xd D)=v+1:=⟨Vc j (xd D)-1,by omega⟩
    rw[hv]at eU;have hp:kK tag=0:=by cases tag<;>first|rfl|exact h1.elim
    have yH:WgAt ty Wg w (((v:Nat)+1)*KK+((1:Nat):Int)) 0:=by simpa using eU
    obtain⟨g',hgo,hl,hq⟩:=fE v 1 (by omega) (by omega) yH;by_cases DU:v=0
    ·subst DU;obtain⟨m₂,hk⟩:=hl ⟨rfl,rfl⟩;refine book hgo (aI w (stA Wg) _) (eU.setSt _) bk2 ND (.d2 hk) rfl (by omega) (by omega) ?_ (.inl ⟨by omega,by simp[cnt]⟩);have gW:∀a,a<j->a≠i->(xd D a).stage=1:=λa ha e=>by
      have c0:=others_uncounted hi hv iZ a ha e;have:=h2 a ha;simp only[cnt]at c0;split at c0<;>omega
     have:=Mo.last (j:=j) (D:=upd (xd D) i ⟨4,m₂,1⟩) (tag:=tag) i h1 hi (by rw[al];simp) (λa ha e=>by rw[ay (xd D) _ e];exact gW a ha e);rw[al]at this;simpa using this
    ·obtain⟨q,hq⟩:=hq (by omega);have JO:Vc j (upd (xd D) i ⟨1,q,1⟩)=v:=by have:=Vc_upd (xd D) (⟨1,q,1⟩:WD) hi;have:=Ua q;omega
     refine book hgo (aI w (stA Wg) _) (eU.setSt _) bk2 ND (.quit hq) rfl (by omega) (by omega) ?_ (.inl ⟨by omega,by simp[cnt]⟩);have e:((v:Nat):Int)*KK+((1:Nat):Int)=((Vc j (upd (xd D) i ⟨1,q,1⟩):Nat):Int)*KK+1:=by rw[JO];simp
     rw[e];exact .reg h1 (Tg q h2) (by omega)
   |last L _ h2 h3 h4=>
    by_cases e:i=L
    ·subst e;omega
    ·have:=h4 i hi e;omega
   |sema _ h2=>have:=h2 i hi;omega
   |fin _ h2=>have:=h2 i hi;omega
  ·obtain⟨g',w',es,hgo,⟨rfl,rfl⟩,fU⟩:=dH w (bh w);exact idle hgo (.d1 fU) rfl (by omega)
 |d2 h=>
  rcases az h with eu|⟨m',rfl,dH⟩
  ·obtain⟨_,hx⟩:=eu w (bh w);obtain⟨Gu,gW,rfl,rfl⟩:=dM.isLast hi (by omega);simp only[xI]at eU;obtain⟨g',hgo,m₂,hk⟩:=hx (by simpa using eU);refine book hgo (.refl Wg w) eU (by intro e he;simp at he;subst he;exact bk_cell _ _ rfl) (by intro jx e he;match jx,he with|0,_=>exact .inr (by simp[ax])|jx+1,he=>simp at he) (.d3 hk) rfl (by omega) (by omega) ?_ (.inl ⟨by omega,by simp[cnt]⟩);have:=Mo.last (j:=j) (D:=upd (xd D) i ⟨3,m₂,1⟩) (tag:=tag) i Gu hi (by rw[al];simp) (λa ha e=>by rw[ay (xd D) _ e];exact gW a ha e);rw[al]at this;simpa using this
  ·obtain⟨g',w',es,hgo,⟨rfl,rfl⟩,fU⟩:=dH w (bh w);exact idle hgo (.d2 fU) rfl (by omega)
 |d3 h=>
  rcases az h with eu|⟨m',rfl,dH⟩
  ·obtain⟨_,hx⟩:=eu w (bh w);obtain⟨Gu,gW,rfl,rfl⟩:=dM.isLast hi (by omega);simp only[xI]at eU;obtain⟨g',hgo,m₂,hk⟩:=hx (by simpa using eU);refine book hgo (aI w (stA Wg) _) (eU.setSt 0) (by intro e he;simp at he;subst he;exact bk_cell _ _ rfl) (by intro jx e he;match jx,he with|0,_=>exact .inr (by simp[ax])|jx+1,he=>simp at he) (.d4 hk) rfl (by omega) (by omega) ?_ (.inl ⟨by omega,by simp[cnt]⟩);have:=Mo.last (j:=j) (D:=upd (xd D) i ⟨2,m₂,1⟩) (tag:=tag) i Gu hi (by rw[al];simp) (λa ha e=>by rw[ay (xd D) _ e];exact gW a ha e);rw[al]at this;simpa using this
  ·obtain⟨g',w',es,hgo,⟨rfl,rfl⟩,fU⟩:=dH w (bh w);exact idle hgo (.d3 fU) rfl (by omega)
 |d4 h=>
  rcases az h with eu|⟨m',rfl,dH⟩
  ·obtain⟨_,hmw,hx⟩:=eu w (bh w);obtain⟨Gu,gW,rfl,rfl⟩:=dM.isLast hi (by omega);simp only[xI]at eU;obtain⟨g',hgo,q,hq⟩:=hx (by simpa using eU);have sF:g'.status=.running:=by
    cases q with
    |zero=>exact absurd hq.2 (by decide)
    |succ q=>exact hq.elim (λx=>absurd x.2 (by decide)) (λx=>x.1)
   refine AX hgo (aI w (smA Wg) _) (eU.setSm 1) (es:=semEvents (smA Wg)) bk_sem ?_ (.quit hq) (by simp[ax,semEvents]) (by omega) (by omega) ?_ (.inl ⟨by omega,by simp[cnt]⟩)
   ·intro jx e he;match jx,he with
    |0,he=>simp[semEvents]at he;subst he;exact .inl rfl
    |1,_=>exact .inr (by simp[ax,semEvents])
    |2,_=>exact .inr (by simp[ax,semEvents])
    |3,he=>simp[semEvents]at he;subst he;exact .inl rfl
    |jx+4,he=>simp[semEvents]at he
   ·intro tag' ht hw;have mJ:=hw hmw sF;have e3:tag'=.sm\/tag'=.ws:=by
     rcases ht with rfl|⟨_,rfl⟩
     ·cases tag'<;>first|exact .inl rfl|exact .inr rfl|exact Gu.elim|exact absurd rfl mJ
     ·exact .inl rfl
    have Cb:AllQuit j (upd (xd D) i ⟨1,q,1⟩):=λa ha=>by
     by_cases e:a=i
     ·subst e;rw[al]
     ·rw[ay (xd D) _ e];exact gW a ha e
    simp only[if_true];exact .sema e3.symm Cb
  ·obtain⟨g',w',es,hgo,⟨rfl,rfl⟩,fU⟩:=dH w (bh w);exact idle hgo (.d4 fU) rfl (by omega)
 |quit h=>
  cases m with
  |zero=>rw[h.1]at dZ;cases dZ
  |succ q=>
   rcases h with⟨hf,_⟩|⟨_,g',es,AU,dH,hq⟩
   ·rw[hf]at dZ;cases dZ
   ·have Ap:∀e∈es,Bk Wg e:=λe he=>bk_of_mute (AU e he);have fq:∀jx e,es[jx]?=some e->(aj e).touch?=none\/0<ax dd (es.extract 0 jx):=λjx e he=>.inl (touch_mute (AU e (bd he)));exact book (dH w) (.refl Wg w) eU Ap fq (.quit hq) rfl (by omega) (by omega) (by have:=dM.same (i:=i) q (ax dd es);rwa [xI]at this) (.inr ⟨rfl,rfl⟩)
end
end
section
open Go Go.Conc Go.ConcN Sim
open Go.ConcN.Gen (ev0_said_read ev0_said_write)
open Go.ConcR (KK WgAt stA smA rd wr mk Payload DC0 g_of_ofEvents Bk bk_of_mute ofEvent_loc_mark ofEvent_cell)
theorem MLt.lt1 {N:Nat} {a b c:Mea} (h:MLt N a b) (k:b.1<c.1):MLt N a c:=by
 obtain⟨a1,a2⟩:=a;obtain⟨b1,b2⟩:=b;obtain⟨c1,c2⟩:=c;simp only at k;rcases Prod.lex_def.1 h with h|⟨h,_⟩
 ·simp only at h;exact ba _ _ (by omega)
 ·simp only at h;exact ba _ _ (by omega)
section
variable [Payload] (P:aw) (ty:aJ) (o Wg C n:Nat) (SB:Blocks) (qw:Nat->Blocks->aL->ae->Prop) (K:aa->ae->Prop) (L0:Nat) (w0:ae)
def Out (gs:Array aa) (w:ae) (sl:Option (Nat×Nat)) (t:aB) (k:Nat) (μ:Mea):Prop:=
 ∃m₁ ops μ',runT P (crowd gs w sl) k=(.next m₁,ops)/\MLt (n+1) μ' μ/\sI P ty o Wg C n SB qw K L0 w0 μ' m₁ (t++ops)
end
section
variable {j:Nat} {D:Nat->WD} {tag tag':Tag} {st sm:Int}
theorem Mo.reopen (hm:Mo j D tag st sm) (h:Iu tag) (h':Iu tag') (hp:kK tag'=kK tag) (hw:∀vs,tag'=.cs vs->Vc j D<=vs/\1<=vs):Mo j D tag' st sm:=by
 cases hm with
 |opn _ h2 _=>rw[<-hp];exact .opn h' h2 hw
 |reg h1 _ _=>cases tag<;>first|exact h.elim|exact h1.elim
 |last L h1 _ _ _=>cases tag<;>first|exact h.elim|exact h1.elim
 |sema h1 _=>rcases h1 with rfl|rfl<;>exact h.elim
 |fin h1 _=>cases tag<;>first|exact h.elim|exact h1.elim
theorem Mo.open_inv (hm:Mo j D tag st sm) (h:Iu tag):OpenSt j D/\st=((Vc j D+kK tag:Nat):Int)*KK/\sm=0/\∀vs,tag=.cs vs->Vc j D<=vs/\1<=vs:=by
 cases hm with
 |opn _ h2 h3=>exact⟨h2,rfl,rfl,h3⟩
 |reg h1 _ _=>cases tag<;>first|exact h.elim|exact h1.elim
 |last L h1 _ _ _=>cases tag<;>first|exact h.elim|exact h1.elim
 |sema h1 _=>rcases h1 with rfl|rfl<;>exact h.elim
 |fin h1 _=>cases tag<;>first|exact h.elim|exact h1.elim
theorem Mo.fin_inv (hm:Mo j D tag st sm) (h:Pm tag):AllQuit j D/\st=0/\sm=0:=by
 cases hm with
 |opn h1 _ _=>cases tag<;>first|exact h.elim|exact h1.elim
 |reg h1 _ _=>cases tag<;>first|exact h.elim|exact h1.elim
 |last L h1 _ _ _=>cases tag<;>first|exact h.elim|exact h1.elim
 |sema h1 _=>rcases h1 with rfl|rfl<;>exact h.elim
 |fin _ h2=>exact⟨h2,rfl,rfl⟩
end
section
variable [Payload] {P:aw} {ty:aJ} {o Wg C n:Nat} {SB:Blocks} {qw:Nat->Blocks->aL->ae->Prop} {K:aa->ae->Prop} {L0:Nat} {w0:ae} {gs:Array aa} {w w':ae} {sl:Option (Nat×Nat)} {j:Nat} {D:Nat->WX} {q:Nat->Nat} {tag tag':Tag} {f0 f' d0:Nat} {rk A8:Rank} {FM OM xH xD:Blocks} {a a':aa} {t:aB} {st sm st' sm':Int} {es:Array bi}
omit [Payload] in
theorem Sep.none (S:Sep Wg C SB j D FM OM w):Sep Wg C SB j D FM (λ_=>False) w:=⟨S.wF,S.wO,S.apart,S.mF,λ_ h=>h.elim,S.lW,S.lC,S.lS,S.hCW,S.sW,S.sC⟩
omit [Payload] in
theorem Sep.size (S:Sep Wg C SB j D FM OM w) (h:w.heap.size<=w'.heap.size):Sep Wg C SB j D FM OM w':=
 ⟨λi hi b hb=>let x:=S.wF i hi b hb;⟨xll x.1 h,x.2⟩,S.wO,S.apart,λb hb=>let x:=S.mF b hb;⟨xll x.1 h,x.2⟩,S.mO,xll S.lW h,xll S.lC h,λb hb=>xll (S.lS b hb) h,S.hCW,S.sW,S.sC⟩
omit [Payload] in
theorem Kept.none (h:Kept Wg C L0 w0 j D OM w):Kept Wg C L0 w0 j D (λ_=>False) w:=⟨h.keep,h.lW,h.lC,h.lO,λ_ h=>h.elim,h.tape,h.os,h.output,h.nb⟩
omit [Payload] in
theorem Kept.wg (h:Kept Wg C L0 w0 j D OM w) (hA:Aside Wg w w') (hg:WgAt ty Wg w' st' sm'):Kept Wg C L0 w0 j D OM w':=
 ⟨λb hb=>(hA.block b (by have:=h.lW;omega)).trans (h.keep b hb),h.lW,h.lC,h.lO,h.lM,hA.tape.trans h.tape,hA.os.trans h.os,hA.output.trans h.output,λx=>Jd hA.block ⟨_,_,_,hg⟩ (h.nb x)⟩
omit [Payload] in
theorem R3 {pos:String} (h:∀e∈es,∀y,(aj e).touch?=some y->∃b,y.loc=.cell b/\b.block=Wg/\y.kind≠.plain):∀op∈av 0 fn pos es,Ok0 (ShP Wg SB) (qB o C j D) (RdD o j D) (o-1+j) op:=by
 intro op dU;obtain⟨e,he,rfl⟩:=ak dU;refine⟨rfl,λy hy=>?_⟩;obtain⟨b,h1,h2,h3⟩:=h e he y hy;exact .inl ⟨h1▸⟨b,rfl,.inr h2⟩,h3⟩
omit [Payload] in
theorem um (h:∀e∈es,Bk Wg e):∀e∈es,∀y,(aj e).touch?=some y->∃b,y.loc=.cell b/\b.block=Wg/\y.kind≠.plain:=by
 intro e he y hy;rcases h e he with h1|h1|⟨b,wr,rfl,hb⟩
 ·rw[ofEvent_loc_mark h1]at hy;cases hy
 ·rw[ofEvent_loc_mark h1]at hy;cases hy
 ·rw[ofEvent_cell]at hy;simp only[aM,aC]at hy;subst hy;exact⟨b,rfl,hb,by simp⟩
theorem ni (qx:∀i F v w w1,qw i F v w->Ext F w w1->qw i F v w1) (ha:gs[0]?=some a) (dO:xu P ty o Wg C n SB qw j gs w t D q d0) (S:Sep Wg C SB j D FM OM w) (eP:Kept Wg C L0 w0 j D OM w)
  (hgo:au P true a w=.go a' w' es) (nE:Aside Wg w w') (gN:WgAt ty Wg w' st' sm') (F4:∀e∈es,∀y,(aj e).touch?=some y->∃b,y.loc=.cell b/\b.block=Wg/\y.kind≠.plain) (yN:∀e∈es,e.loc≠.mark (.release (stA Wg)))
  (uF:MS P ty Wg C n qw K tag' f' (ax d0 es) .leaf FM (λ_=>False) a' w') (lD:Mo j (xd D) tag' st' sm') (eY:JT n tag' j)
  (dW:psi n (Vc j (xd D)) tag'<psi n (Vc j (xd D)) tag\/(psi n (Vc j (xd D)) tag'=psi n (Vc j (xd D)) tag/\rk=.leaf/\f'<f0)):
  Out P ty o Wg C n SB qw K L0 w0 gs w sl t 0 (psi n (Vc j (xd D)) tag+iw j D,ranks n D rk,f0+2*jI j D+2*sumTo o q):=by
 obtain⟨cs,iZ,kP⟩:=dO.pay;have eT:w.heap.size<=w'.heap.size:=by rw[nE.size];exact jm _
 have lW:=S.lW;refine callerStep qx ha dO S hgo uF (S.none.size eT) (λi hi=>⟨⟨eT,λb hb=>nE.block b (S.wF i hi b hb).2.1⟩,RW.of_wg nE ⟨_,_,gN⟩ S.hCW⟩) eT (R3 F4)
  (λe he y hy=>by obtain⟨b,h1,_⟩:=F4 e he y hy;rw[h1];rfl) yN (λe he y hy=>by obtain⟨b,h1,h2,_⟩:=F4 e he y hy;rw[h1];show b.block<_;omega) ⟨cs,(nE.block C S.hCW).trans iZ,kP⟩ gN lD eY (eP.none.wg nE gN) ?_
 rcases dW with h|⟨h1,h2,h3⟩
 ·exact .inl h
 ·exact .inr (.inr ⟨h1,h2.symm,h3⟩)
theorem sM (qx:∀i F v w w1,qw i F v w->Ext F w w1->qw i F v w1) (ha:gs[0]?=some a) (dO:xu P ty o Wg C n SB qw j gs w t D q d0) (S:Sep Wg C SB j D FM OM w) (eP:Kept Wg C L0 w0 j D OM w)
  (eU:WgAt ty Wg w st sm) (dM:Mo j (xd D) tag st sm) (eY:JT n tag j)
  (hgo:au P true a w=.go a' w' es) (hD:DC0 w w' es) (uF:MS P ty Wg C n qw K tag f' d0 .leaf FM (λ_=>False) a' w') (hf:f'<f0):
  Out P ty o Wg C n SB qw K L0 w0 gs w sl t 0 (psi n (Vc j (xd D)) tag+iw j D,ranks n D .leaf,f0+2*jI j D+2*sumTo o q):=by
 obtain⟨rfl,rfl⟩:=hD;exact ni qx ha dO S eP hgo (.refl Wg _) eU (by simp) (by simp) uF dM eY (.inr ⟨rfl,rfl,hf⟩)
omit [Payload] in
theorem tZ (h:∀e∈es,Bk Wg e):∀e∈es,e.loc≠.mark (.release (stA Wg)):=λe he=>(norel_of_Bk h) e he
omit [Payload] in
theorem Rm {m:Mark} (hm:m=.read (smA Wg)\/m=.write (smA Wg)):∀e∈#[mk m],∀y,(aj e).touch?=some y->∃b,y.loc=.cell b/\b.block=Wg/\y.kind≠.plain:=by
 intro e he y hy;simp only[aX,aY]at he;subst he;rcases hm with rfl|rfl<;>
  (simp only[mk,aj,aM,aC]at hy
   subst hy
   exact⟨smA Wg,rfl,rfl,by simp⟩)
omit [Payload] in
theorem Ms {m:Mark} (hm:m≠.release (stA Wg)):∀e∈#[mk m],e.loc≠.mark (.release (stA Wg)):=by
 intro e he;simp only[aX,aY]at he;subst he;intro h;simp only[mk,Loc.mark.injEq]at h;exact hm h
section
variable (qx:∀i F v w w1,qw i F v w->Ext F w w1->qw i F v w1) (hn:n<2147483648) (ha:gs[0]?=some a) (eP:Kept Wg C L0 w0 j D OM w) (S:Sep Wg C SB j D FM OM w) (eU:WgAt ty Wg w st sm)
include qx hn ha eP S eU
omit hn in
theorem Qt (dO:xu P ty o Wg C n SB qw j gs w t D q 0) (dM:Mo j (xd D) (.kdS r) st sm) (eY:JT n (.kdS r) j) (hr:r<n)
  (h:Goes P true (RM ty Wg FM) DC0 (iA P .disable (MG P ty Wg FM (uX P ty Wg FM (MG P ty Wg FM (AtGoM P ty Wg C n qw (n-(r+1)) FM λg' w=>WG P true (Scr P ty Wg C n qw K r) FM (λ_=>False) g' w))))) f0 a w):
  Out P ty o Wg C n SB qw K L0 w0 gs w sl t 0 (psi n (Vc j (xd D)) (.kdS r)+iw j D,ranks n D .leaf,f0+2*jI j D+2*sumTo o q):=by
 rcases az h with eu|⟨m',rfl,dH⟩
 ·obtain⟨_,a',hgo,m₂,hk⟩:=eu w (ja w);exact ni (tag':=.ad r) qx ha dO S eP hgo (.refl Wg _) eU (um bk_dis) (tZ bk_dis) (.ad hr hk) (dM.reopen trivial trivial rfl (by simp)) eY (.inl (by simp only[psi];omega))
 ·obtain⟨a',w',es,hgo,hD,fU⟩:=dH w (ja w);exact sM qx ha dO S eP eU dM eY hgo hD (.kdS hr fU) (by omega)
theorem ZR (dO:xu P ty o Wg C n SB qw j gs w t D q 1) (dM:Mo j (xd D) (.ad r) st sm) (eY:JT n (.ad r) j) (hr:r<n)
  (h:Goes P true (RM ty Wg FM) DC0 (uX P ty Wg FM (MG P ty Wg FM (AtGoM P ty Wg C n qw (n-(r+1)) FM λg' w=>WG P true (Scr P ty Wg C n qw K r) FM (λ_=>False) g' w))) f0 a w):
  Out P ty o Wg C n SB qw K L0 w0 gs w sl t 0 (psi n (Vc j (xd D)) (.ad r)+iw j D,ranks n D .leaf,f0+2*jI j D+2*sumTo o q):=by
 have J2:=Vc_le j (xd D);have Gh:=eY.le;rcases az h with eu|⟨m',rfl,dH⟩
 ·obtain⟨_,fE⟩:=eu w (ja w);obtain⟨ho,rfl,rfl,_⟩:=dM.open_inv trivial;have JW:j+r+1=n:=eY;obtain⟨a',hgo,hk⟩:=fE (Vc j (xd D)) (by omega) (by simpa[kK]using eU);rcases hk with⟨_,m₂,hk⟩|⟨_,m₂,hk⟩
  ·refine ni (tag':=.rs r) qx ha dO S eP hgo (aI w (stA Wg) _) (eU.setSt _) (um bk_rw) (tZ bk_rw) (.rs hr hk) ?_ eY (.inl (by simp only[psi];omega));have e:(((Vc j (xd D):Nat):Int)+1)*KK=((Vc j (xd D)+kK (.rs r):Nat):Int)*KK:=by simp[kK]
   rw[e];exact .opn trivial ho (by simp)
  ·refine ni (tag':=.en r) qx ha dO S eP hgo (aI w (stA Wg) _) (eU.setSt _) (um bk_rw) (tZ bk_rw) (.en hr hk) ?_ eY (.inl (by simp only[psi];omega));have e:(((Vc j (xd D):Nat):Int)+1)*KK=((Vc j (xd D)+kK (.en r):Nat):Int)*KK:=by simp[kK]
   rw[e];exact .opn trivial ho (by simp)
 ·obtain⟨a',w',es,hgo,hD,fU⟩:=dH w (ja w);exact sM qx ha dO S eP eU dM eY hgo hD (.ad hr fU) (by omega)
omit hn in
theorem jba (dO:xu P ty o Wg C n SB qw j gs w t D q 1) (dM:Mo j (xd D) (.rs r) st sm) (eY:JT n (.rs r) j) (hr:r<n)
  (h:Goes P true (RM ty Wg FM) DC0 (iA P (.read (smA Wg)) (MG P ty Wg FM (iA P .enable (MG P ty Wg FM (AtGoM P ty Wg C n qw (n-(r+1)) FM λg' w=>WG P true (Scr P ty Wg C n qw K r) FM (λ_=>False) g' w))))) f0 a w):
  Out P ty o Wg C n SB qw K L0 w0 gs w sl t 0 (psi n (Vc j (xd D)) (.rs r)+iw j D,ranks n D .leaf,f0+2*jI j D+2*sumTo o q):=by
 rcases az h with eu|⟨m',rfl,dH⟩
 ·obtain⟨_,a',hgo,m₂,hk⟩:=eu w (ja w);exact ni (tag':=.en r) qx ha dO S eP hgo (.refl Wg _) eU (Rm (.inl rfl)) (Ms (by simp)) (.en hr hk) (dM.reopen trivial trivial rfl (by simp)) eY (.inl (by simp only[psi];omega))
 ·obtain⟨a',w',es,hgo,hD,fU⟩:=dH w (ja w);exact sM qx ha dO S eP eU dM eY hgo hD (.rs hr fU) (by omega)
omit hn in
theorem ZG (dO:xu P ty o Wg C n SB qw j gs w t D q 1) (dM:Mo j (xd D) (.en r) st sm) (eY:JT n (.en r) j) (hr:r<n)
  (h:Goes P true (RM ty Wg FM) DC0 (iA P .enable (MG P ty Wg FM (AtGoM P ty Wg C n qw (n-(r+1)) FM λg' w=>WG P true (Scr P ty Wg C n qw K r) FM (λ_=>False) g' w))) f0 a w):
  Out P ty o Wg C n SB qw K L0 w0 gs w sl t 0 (psi n (Vc j (xd D)) (.en r)+iw j D,ranks n D .leaf,f0+2*jI j D+2*sumTo o q):=by
 rcases az h with eu|⟨m',rfl,dH⟩
 ·obtain⟨_,a',hgo,m₂,hk⟩:=eu w (ja w);exact ni (tag':=.gos r) qx ha dO S eP hgo (.refl Wg _) eU (um bk_en) (tZ bk_en) (.gos hr hk) (dM.reopen trivial trivial rfl (by simp)) eY (.inl (by simp only[psi];omega))
 ·obtain⟨a',w',es,hgo,hD,fU⟩:=dH w (ja w);exact sM qx ha dO S eP eU dM eY hgo hD (.en hr fU) (by omega)
omit hn in
theorem Pk (tF:∀g w,A g w->g.status=.running) (rW:∀g w,A g w->MG P ty Wg FM (pK P ty Wg FM A K) g w) (dO:xu P ty o Wg C n SB qw j gs w t D q 0) (dM:Mo j (xd D) .kd st sm) (eY:JT n .kd j)
  (h:Goes P true (RM ty Wg FM) DC0 (iA P .disable (MG P ty Wg FM A)) f0 a w):
  Out P ty o Wg C n SB qw K L0 w0 gs w sl t 0 (psi n (Vc j (xd D)) .kd+iw j D,ranks n D .leaf,f0+2*jI j D+2*sumTo o q):=by
 have J2:=Vc_le j (xd D);have Gh:=eY.le;rcases az h with eu|⟨m',rfl,dH⟩
 ·obtain⟨_,a',hgo,m₂,hk⟩:=eu w (ja w);exact ni (tag':=.anch) qx ha dO S eP hgo (.refl Wg _) eU (um bk_dis) (tZ bk_dis) (.anch tF rW hk) (dM.reopen trivial trivial rfl (by simp)) eY (.inl (by simp only[psi];omega))
 ·obtain⟨a',w',es,hgo,hD,fU⟩:=dH w (ja w);exact sM qx ha dO S eP eU dM eY hgo hD (.kd tF rW fU) (by omega)
theorem PE (tF:∀g w,A g w->g.status=.running) (rW:∀g w,A g w->MG P ty Wg FM (pK P ty Wg FM A K) g w) (dO:xu P ty o Wg C n SB qw j gs w t D q 1) (dM:Mo j (xd D) .ld st sm) (eY:JT n .ld j)
  (h:Goes P true (RM ty Wg FM) DC0 (pK P ty Wg FM A K) f0 a w):
  Out P ty o Wg C n SB qw K L0 w0 gs w sl t 0 (psi n (Vc j (xd D)) .ld+iw j D,ranks n D .leaf,f0+2*jI j D+2*sumTo o q):=by
 have J2:=Vc_le j (xd D);have Gh:=eY.le;rcases az h with eu|⟨m',rfl,dH⟩
 ·obtain⟨_,fE⟩:=eu w (ja w);obtain⟨ho,rfl,rfl,_⟩:=dM.open_inv trivial;obtain⟨a',hgo,h0,eD⟩:=fE (Vc j (xd D)) (by omega) (by simpa[kK]using eU);by_cases hv:Vc j (xd D)=0
  ·obtain⟨m₂,hk⟩:=h0 hv;refine ni (tag':=.en2) qx ha dO S eP hgo (.refl Wg _) eU (um bk_rd) (tZ bk_rd) (.en2 hk) ?_ eY (.inl (by simp only[psi];omega));have e:((Vc j (xd D)+kK .ld:Nat):Int)*KK=0:=by rw[hv];simp[kK]
   rw[e];exact .fin trivial (allQuit_of ho hv)
  ·obtain⟨m₂,hk⟩:=eD hv;exact ni (tag':=.cs (Vc j (xd D))) qx ha dO S eP hgo (.refl Wg _) eU (um bk_rd) (tZ bk_rd) (.cs tF rW hk) (dM.reopen trivial trivial rfl (λvs e=>by cases e;omega)) eY (.inl (by simp only[psi];omega))
 ·obtain⟨a',w',es,hgo,hD,fU⟩:=dH w (ja w);exact sM qx ha dO S eP eU dM eY hgo hD (.ld tF rW fU) (by omega)
theorem V6 (tF:∀g w,A g w->g.status=.running) (rW:∀g w,A g w->MG P ty Wg FM (pK P ty Wg FM A K) g w) (dO:xu P ty o Wg C n SB qw j gs w t D q 1) (dM:Mo j (xd D) .anch st sm) (eY:JT n .anch j)
  (h:Goes P true (RM ty Wg FM) DC0 A f0 a w):
  Out P ty o Wg C n SB qw K L0 w0 gs w sl t 0 (psi n (Vc j (xd D)) .anch+iw j D,ranks n D .leaf,f0+2*jI j D+2*sumTo o q):=by
 rcases az h with eu|⟨m',rfl,dH⟩
 ·obtain⟨m₂,hk⟩:=rW a w (eu w (ja w));obtain⟨m₁,ops,μ',h1,h2,h3⟩:=PE (sl:=sl) qx hn ha eP S eU tF rW dO (dM.reopen trivial trivial rfl (by simp)) eY hk;exact⟨m₁,ops,μ',h1,h2.lt1 (by simp only[psi];omega),h3⟩
 ·obtain⟨a',w',es,hgo,hD,fU⟩:=dH w (ja w);exact sM qx ha dO S eP eU dM eY hgo hD (.anch tF rW fU) (by omega)
theorem ZK {vs:Nat} (tF:∀g w,A g w->g.status=.running) (rW:∀g w,A g w->MG P ty Wg FM (pK P ty Wg FM A K) g w) (dO:xu P ty o Wg C n SB qw j gs w t D q 1) (dM:Mo j (xd D) (.cs vs) st sm) (eY:JT n (.cs vs) j)
  (h:Goes P true (RM ty Wg FM) DC0 (BH P ty Wg FM A K vs) f0 a w):
  Out P ty o Wg C n SB qw K L0 w0 gs w sl t 0 (psi n (Vc j (xd D)) (.cs vs)+iw j D,ranks n D .leaf,f0+2*jI j D+2*sumTo o q):=by
 have J2:=Vc_le j (xd D);have Gh:=eY.le;rcases az h with eu|⟨m',rfl,dH⟩
 ·obtain⟨_,fE⟩:=eu w (ja w);obtain⟨ho,rfl,rfl,nu⟩:=dM.open_inv trivial;obtain⟨hle,h1⟩:=nu vs rfl;obtain⟨Oy,G6⟩:=fE (Vc j (xd D)) (by omega) (by simpa[kK]using eU);by_cases e:Vc j (xd D)=vs
  ·obtain⟨a',hgo,m₂,hk⟩:=Oy e;exact ni (tag':=.ws) qx ha dO S eP hgo (aI w (stA Wg) _) (eU.setSt _) (um bk_rw) (tZ bk_rw) (.ws hk) (.reg trivial ho (by omega)) eY (.inl (by simp only[psi];omega))
  ·obtain⟨a',hgo,m₂,hk⟩:=G6 e;exact ni (tag':=.anch) qx ha dO S eP hgo (.refl Wg _) eU (um bk_rd) (tZ bk_rd) (.anch tF rW hk) (dM.reopen trivial trivial rfl (by simp)) eY (.inl (by simp only[psi];omega))
 ·obtain⟨a',w',es,hgo,hD,fU⟩:=dH w (ja w);exact sM qx ha dO S eP eU dM eY hgo hD (.cs tF rW fU) (by omega)
omit hn in
theorem jbu (dO:xu P ty o Wg C n SB qw j gs w t D q 1) (dM:Mo j (xd D) .ws st sm) (eY:JT n .ws j)
  (h:Goes P true (RM ty Wg FM) DC0 (iA P (.write (smA Wg)) (MG P ty Wg FM (wM P ty Wg FM K))) f0 a w):
  Out P ty o Wg C n SB qw K L0 w0 gs w sl t 0 (psi n (Vc j (xd D)) .ws+iw j D,ranks n D .leaf,f0+2*jI j D+2*sumTo o q):=by
 rcases az h with eu|⟨m',rfl,dH⟩
 ·obtain⟨_,a',hgo,m₂,hk⟩:=eu w (ja w);refine ni (tag':=.sm) qx ha dO S eP hgo (.refl Wg _) eU (Rm (.inr rfl)) (Ms (by simp)) (.sm hk) ?_ eY (.inl (by simp only[psi];omega));cases dM with
  |opn h1 _ _=>exact h1.elim
  |reg h1 h2 h3=>exact .reg trivial h2 h3
  |last L h1 h2 h3 h4=>exact .last L trivial h2 h3 h4
  |sema h1 h2=>exact .sema (.inr rfl) h2
  |fin h1 _=>exact h1.elim
 ·obtain⟨a',w',es,hgo,hD,fU⟩:=dH w (ja w);exact sM qx ha dO S eP eU dM eY hgo hD (.ws fU) (by omega)
end
end
end
section
open Go Go.Conc Go.ConcN Sim
open Go.ConcR (KK WgAt stA smA rd wr mk Payload DC0 g_of_ofEvents Bk bk_of_mute ofEvent_loc_mark ofEvent_cell)
section
variable [Payload] {P:aw} {ty:aJ} {o Wg C n:Nat} {SB:Blocks} {qw:Nat->Blocks->aL->ae->Prop} {K:aa->ae->Prop} {L0:Nat} {w0:ae} {gs:Array aa} {w w':ae} {sl:Option (Nat×Nat)} {j:Nat} {D:Nat->WX} {q:Nat->Nat} {tag tag':Tag} {f0 f' d0:Nat} {rk A8:Rank} {FM OM xH xD:Blocks} {a a':aa} {t:aB} {st sm st' sm':Int} {es:Array bi}
variable (qx:∀i F v w w1,qw i F v w->Ext F w w1->qw i F v w1) (ha:gs[0]?=some a) (eP:Kept Wg C L0 w0 j D OM w) (S:Sep Wg C SB j D FM OM w) (eU:WgAt ty Wg w st sm)
include qx ha eP S eU
theorem jbh (dO:xu P ty o Wg C n SB qw j gs w t D q 1) (dM:Mo j (xd D) .sm st sm) (eY:JT n .sm j)
  (h:Goes P true (RM ty Wg FM) DC0 (wM P ty Wg FM K) f0 a w):
  Out P ty o Wg C n SB qw K L0 w0 gs w sl t 0 (psi n (Vc j (xd D)) .sm+iw j D,ranks n D .leaf,(f0+1)+2*jI j D+2*sumTo o q):=by
 rcases az h with eu|⟨m',rfl,dH⟩
 ·obtain⟨_,hoff,hblk,o6⟩:=eu w (ja w);have nil:∀e∈(#[]:Array bi),∀y,(aj e).touch?=some y->∃b,y.loc=.cell b/\b.block=Wg/\y.kind≠.plain:=by simp
  cases dM with
  |opn h1 _ _=>exact h1.elim
  |reg h1 h2 h3=>exact ni (tag':=.blk) (f':=0) qx ha dO S eP (hblk ⟨_,eU⟩) (.refl Wg w) eU nil (by simp) (.blk eu) (.reg trivial h2 h3) eY (.inr ⟨rfl,rfl,by omega⟩)
  |last L h1 h2 h3 h4=>exact ni (tag':=.blk) (f':=0) qx ha dO S eP (hblk ⟨_,eU⟩) (.refl Wg w) eU nil (by simp) (.blk eu) (.last L trivial h2 h3 h4) eY (.inr ⟨rfl,rfl,by omega⟩)
  |sema h1 h2=>
   obtain⟨a',hgo,m₂,hk⟩:=o6 eU;exact ni (tag':=.l2) qx ha dO S eP hgo (aI w (smA Wg) _) (eU.setSm 0) (um bk_sem) (tZ bk_sem) (.l2 hk) (.fin trivial h2) eY (.inl (by simp only[psi];omega))
  |fin h1 _=>exact h1.elim
 ·obtain⟨a',w',es,hgo,hD,fU⟩:=dH w (ja w);obtain⟨rfl,rfl⟩:=hD;exact ni (tag':=.sm) (f':=m'+1) qx ha dO S eP hgo (.refl Wg _) eU (by simp) (by simp) (.sm fU) dM eY (.inr ⟨rfl,rfl,by omega⟩)
theorem jac (dO:xu P ty o Wg C n SB qw j gs w t D q 1) (dM:Mo j (xd D) .l2 st sm) (eY:JT n .l2 j)
  (h:Goes P true (RM ty Wg FM) DC0 (BG P ty Wg FM K) f0 a w):
  Out P ty o Wg C n SB qw K L0 w0 gs w sl t 0 (psi n (Vc j (xd D)) .l2+iw j D,ranks n D .leaf,f0+2*jI j D+2*sumTo o q):=by
 rcases az h with eu|⟨m',rfl,dH⟩
 ·obtain⟨_,hx⟩:=eu w (ja w);obtain⟨hq,rfl,rfl⟩:=dM.fin_inv trivial;obtain⟨a',hgo,m₂,hk⟩:=hx eU;exact ni (tag':=.en2) qx ha dO S eP hgo (.refl Wg _) eU (um bk_rd) (tZ bk_rd) (.en2 hk) (.fin trivial hq) eY (.inl (by simp only[psi];omega))
 ·obtain⟨a',w',es,hgo,hD,fU⟩:=dH w (ja w);exact sM qx ha dO S eP eU dM eY hgo hD (.l2 fU) (by omega)
theorem q3l (dO:xu P ty o Wg C n SB qw j gs w t D q 1) (dM:Mo j (xd D) .en2 st sm) (eY:JT n .en2 j)
  (h:Goes P true (RM ty Wg FM) DC0 (iA P .enable (MG P ty Wg FM (iA P (.acquire (stA Wg)) K))) f0 a w):
  Out P ty o Wg C n SB qw K L0 w0 gs w sl t 0 (psi n (Vc j (xd D)) .en2+iw j D,ranks n D .leaf,f0+2*jI j D+2*sumTo o q):=by
 rcases az h with eu|⟨m',rfl,dH⟩
 ·obtain⟨_,a',hgo,m₂,hk⟩:=eu w (ja w);obtain⟨hq,rfl,rfl⟩:=dM.fin_inv trivial;exact ni (tag':=.acq) qx ha dO S eP hgo (.refl Wg _) eU (um bk_en) (tZ bk_en) (.acq hk) (.fin trivial hq) eY (.inl (by simp only[psi];omega))
 ·obtain⟨a',w',es,hgo,hD,fU⟩:=dH w (ja w);exact sM qx ha dO S eP eU dM eY hgo hD (.en2 fU) (by omega)
theorem ZE (dO:xu P ty o Wg C n SB qw j gs w t D q 0) (dM:Mo j (xd D) (.gos r) st sm) (eY:JT n (.gos r) j) (hr:r<n)
  (h:Goes P true (RM ty Wg FM) DC0 (AtGoM P ty Wg C n qw (n-(r+1)) FM λg' w=>WG P true (Scr P ty Wg C n qw K r) FM (λ_=>False) g' w) f0 a w):
  Out P ty o Wg C n SB qw K L0 w0 gs w sl t 0 (psi n (Vc j (xd D)) (.gos r)+iw j D,ranks n D .leaf,f0+2*jI j D+2*sumTo o q):=by
 rcases az h with eu|⟨m',rfl,dH⟩
 ·obtain⟨_,a',child,Ai,hcr,GV,Vr,sG⟩:=eu w (ja w);have JW:j+r+1=n:=eY;have ej:n-(r+1)=j:=by omega
  rw[ej]at GV;obtain⟨F,hF,Kn,JM⟩:=GV dO.pay;obtain⟨ho,rfl,rfl,_⟩:=dM.open_inv trivial;have dU:=dO.uU
  let x:WX:=⟨9,0,0,Kn,F,λ_=>False,.bool false⟩
  have S':Sep Wg C SB (j+1) (upd D j x) FM (λ_=>False) w:=by
   refine⟨λi hi b hb=>?_,λi hi b hb=>?_,λi1 i2 h1 h2 eD b hb fJ=>?_,λb hb=>?_,λ_ h=>h.elim,S.lW,S.lC,S.lS,S.hCW,S.sW,S.sC⟩
   ·by_cases e:i=j
    ·subst e;rw[al]at hb;have:=S.mF b (hF b hb);exact⟨this.1,this.2.1,this.2.2.1,this.2.2.2.1⟩
    ·rw[ay D _ e]at hb;exact S.wF i (by omega) b hb
   ·by_cases e:i=j
    ·subst e;rw[al]at hb;exact hb.elim
    ·rw[ay D _ e]at hb⊢;exact S.wO i (by omega) b hb
   ·by_cases e:i1=j
    ·subst e;rw[al]at hb;exact hb.elim
    ·rw[ay D _ e]at hb;by_cases e2:i2=j
     ·subst e2;rw[al]at fJ;exact(S.mF b (hF b fJ)).2.2.2.2 i1 (by omega) hb
     ·rw[ay D _ e2]at fJ;exact S.apart i1 i2 (by omega) (by omega) eD b hb fJ
   ·have:=S.mF b hb;refine⟨this.1,this.2.1,this.2.2.1,this.2.2.2.1,λi hi hO=>?_⟩;by_cases e:i=j
    ·subst e;rw[al]at hO;exact hO.elim
    ·rw[ay D _ e]at hO;exact this.2.2.2.2 i (by omega) hO
  have sF:=runT_crowd_spawn (P:=P) (sl:=sl) (i:=0) ha (by simpa using Ai);rw[dO.size]at sF;have gF:=dO.spawn S' (a':=a') (child:=child) rfl rfl (.own (by rw[show(9:Nat)=9 from rfl]) rfl rfl JM) (fn:=a.frame.fn) (pos:=a.frame.place) (fn':=child.frame.fn) (pos':=a.frame.place);have ex:xd (upd D j x)=upd (xd D) j ⟨7,0,0⟩:=by rw[Im];rfl
  have eV:Vc (j+1) (xd (upd D j x))=Vc j (xd D)+1:=by
   rw[ex];simp only[Vc,sumTo,al];rw[sumTo_upd_out (xd D) _ cnt (jm _)];rfl
  have eS:iw (j+1) (upd D j x)=iw j D+9:=by
   simp only[iw,sumTo,al];rw[sumTo_upd_out D _ WX.stage (jm _)]
  have yL:OpenSt (j+1) (xd (upd D j x)):=λi hi=>by
   rw[ex];by_cases e:i=j
   ·subst e;rw[al];simp
   ·rw[ay (xd D) _ e];exact ho i (by omega)
  have ha':((gs.setIfInBounds 0 a').push child)[0]?=some a':=by
   have MQ:0<(gs.setIfInBounds 0 a').size:=by simp[dO.size];omega
   rw[bo MQ];simp
  have Ak:Kept Wg C L0 w0 (j+1) (upd D j x) (λ_=>False) w:=by
   refine⟨eP.keep,eP.lW,eP.lC,λi hi b hb=>?_,λ_ h=>h.elim,eP.tape,eP.os,eP.output,eP.nb⟩;by_cases e:i=j
   ·subst e;rw[al]at hb;exact hb.elim
   ·rw[ay D _ e]at hb;exact eP.lO i (by omega) b hb
  refine⟨_,_,_,sF,?_,_,w,sl,j+1,upd D j x,q,.wg r,0,0,Vr,FM,λ_=>False,a',_,_,rfl,ha',.wg (by omega) sG,?_,S',eU,?_,(by show j+1+r=n;omega),Ak,rfl⟩
  ·refine ba _ _ ?_;rw[eS];simp only[psi];omega
  ·exact gF
  ·have e:((Vc j (xd D)+kK (.gos r):Nat):Int)*KK=((Vc (j+1) (xd (upd D j x))+kK (.wg r):Nat):Int)*KK:=by rw[eV];simp[kK]
   rw[e];exact .opn trivial yL (by simp)
 ·obtain⟨a',w',es,hgo,hD,fU⟩:=dH w (ja w);exact sM qx ha dO S eP eU dM eY hgo hD (.gos hr fU) (by omega)
theorem jbt {f:ae->Rank} (dO:xu P ty o Wg C n SB qw j gs w t D q 0) (dM:Mo j (xd D) (.wg r) st sm) (eY:JT n (.wg r) j) (hr:r<=n)
  (h:WGo P true (Scr P ty Wg C n qw K r) (.node f) FM OM a w):
  Out P ty o Wg C n SB qw K L0 w0 gs w sl t 0 (psi n (Vc j (xd D)) (.wg r)+iw j D,ranks n D (.node f),0+2*jI j D+2*sumTo o q):=by
 obtain⟨xH,xD,a',w',es,hgo,ok,qL⟩:=h.2 w (Ext.refl ..);have lW:=S.lW;have lC:=S.lC;have nO:∀b,OM b->b≠Wg/\b≠C:=λb hb=>⟨(S.mF b (S.mO b hb).1).2.1,(S.mF b (S.mO b hb).1).2.2.1⟩
 have hW:w'.heap[Wg]?=w.heap[Wg]?:=ok.keep Wg lW λh=>(nO Wg h).1 rfl;have hC:w'.heap[C]?=w.heap[C]?:=ok.keep C lC λh=>(nO C h).2 rfl;have gN:WgAt ty Wg w' st sm:=by unfold WgAt at *; rw[hW];exact eU
 have eT:=ok.size;have S':Sep Wg C SB j D xH xD w':=by
  refine⟨λi hi b hb=>let x:=S.wF i hi b hb;⟨xll x.1 eT,x.2⟩,S.wO,S.apart,λb hb=>?_,λb hb=>⟨ok.own b hb,λi hi hf=>?_⟩,xll S.lW eT,xll S.lC eT,λb hb=>xll (S.lS b hb) eT,S.hCW,S.sW,S.sC⟩
  ·refine⟨ok.low b hb,?_⟩;rcases ok.new b hb with h|h
   ·exact(S.mF b h).2
   ·exact⟨by omega,by omega,λhs=>by have:=S.lS b hs;omega,λi hi ho=>by have:=(S.wF i hi b (S.wO i hi b ho)).1;omega⟩
  ·rcases ok.Ba b hb with h|h
   ·exact(S.mO b h).2 i hi hf
   ·have:=(S.wF i hi b hf).1;omega
 have uF:MS P ty Wg C n qw K (.wg r) 0 (ax 0 es) (f w) xH xD a' w':=by
  rw[deafBehind_idle (λe he=>⟨(Ae (Wg:=Wg) (ok.ev e he) ok.low).1,(Ae (Wg:=Wg) (ok.ev e he) ok.low).2.1⟩) 0];exact .wg hr qL
 refine callerStep qx ha dO S hgo (tag':=.wg r) (f':=0) uF S'
  (λi hi=>⟨⟨eT,λb hb=>ok.keep b (S.wF i hi b hb).1 λho=>(S.mO b ho).2 i hi hb⟩,P7 hW hC⟩) eT (λop dU=>?_) (λe he y hy=>(Lr (ok.ev e he) hy).1)
  (λe he=>(Ae (Wg:=Wg) (ok.ev e he) ok.low).2.2.1) (λe he=>BL (Ae (Wg:=Wg) (ok.ev e he) ok.low).2.2.2) ?_ gN dM eY ?_ (.inr (.inl ⟨rfl,⟨w,rfl⟩⟩))
 ·obtain⟨e,he,rfl⟩:=ak dU;refine⟨rfl,λy hy=>.inr ?_⟩;obtain⟨h1,h2,h3,h4⟩:=Lr (ok.ev e he) hy;have mJ:∀{b:Nat},xH b->b≠Wg/\b≠C/\¬SB b/\∀i,i<j->¬(D i).O b:=λhb=>(S'.mF _ hb).2;have tq:∀{B:Blocks} {l:Loc},ug B l->∃b,B b/\((∃a,l=.cell a/\a.block=b)\/l=.obj b):=by
   intro B l hl;cases l with
   |cell a=>exact⟨_,hl,.inl ⟨a,rfl,rfl⟩⟩
   |obj r=>exact⟨_,hl,.inr rfl⟩
   |_=>exact hl.elim
  have same:∀{b b':Nat} {l:Loc},((∃a:Addr,l=.cell a/\a.block=b)\/l=.obj b)->((∃a:Addr,l=.cell a/\a.block=b')\/l=.obj b')->b=b':=by
   intro b b' l h1 h2;rcases h1 with⟨a,rfl,rfl⟩|rfl
   ·rcases h2 with⟨a',e,rfl⟩|e
    ·cases e;rfl
    ·cases e
   ·rcases h2 with⟨a',e,rfl⟩|e
    ·cases e
    ·cases e;rfl
  obtain⟨b,hb,hl⟩:=tq h3;have fH:=mJ hb;refine⟨?_,λk k1 kj=>?_,λvF k k1 kj=>?_⟩
  ·rintro⟨c,hc,hs⟩;rw[hc]at hl;rcases hl with⟨a1,e,rfl⟩|e
   ·cases e;rcases hs with hs|hs
    ·exact fH.2.2.1 hs
    ·exact fH.1 hs
   ·cases e
  ·rintro⟨i,hi,rfl,h5⟩;rcases h5 with h5|h5
   ·obtain⟨b',fJ,nC⟩:=tq h5;obtain rfl:=same hl nC;exact fH.2.2.2 i hi fJ
   ·rw[h5]at hl;rcases hl with⟨a1,e,rfl⟩|e
    ·cases e;exact fH.2.1 rfl
    ·cases e
  ·rintro⟨i,hi,rfl,h5⟩;obtain⟨b',⟨fJ,_⟩,nC⟩:=tq h5;obtain⟨b3,gM,hl3⟩:=tq (h4 vF);obtain rfl:=same hl nC;obtain rfl:=same hl hl3;exact(S'.mO _ gM).2 i hi fJ
 ·obtain⟨cs,h1,h2⟩:=dO.pay;exact⟨cs,by rw[hC];exact h1,h2⟩
 ·refine⟨λb hb=>(ok.keep b (by have:=eP.lW;omega) λho=>by have:=eP.lM b ho;omega).trans (eP.keep b hb),eP.lW,eP.lC,eP.lO,λb hb=>?_,ok.tape.trans eP.tape,ok.os.trans eP.os,ok.output.trans eP.output,λx=>ok.nb (eP.nb x)⟩;rcases ok.Ba b hb with h|h
  ·exact eP.lM b h
  ·have:=eP.lW;omega
end
end
section
open Go Go.Conc Go.ConcN Sim
open Go.ConcR (KK WgAt stA smA rd wr mk Payload DC0 g_of_ofEvents Bk bk_of_mute ofEvent_loc_mark ofEvent_cell ofEvent_mk)
section
variable {o Wg C n:Nat} {SB:Blocks} {D:Nat->WX} {w:ae} {t:aB}
theorem Yu (tr:xQ o Wg C SB n D w t) (ho:0<o) {q:Nat} (hq:t.act? q=some (.mark (.acquire (stA Wg)))) (hg:t.g? q=some 0) (hh:t.heard q) (all:∀i,i<n->∃r,RelBy (stA Wg) t (o+i) r/\r<q) (h0:Deaf t 0=0):
  vz (λb=>SB b\/b=Wg) w (o+n) t:=by
 obtain⟨p,p0,p1,p2⟩:=tr.norel;have late:∀{i g:Nat},t.g? i=some g->o<=g->t.counts i->bB t i q:=by
  intro i g D5 hle hc;obtain⟨op,dU,rfl⟩:=ao.1 D5;have hb:=tr.ct.gs i op dU;obtain⟨r,hr,hrq⟩:=all (op.g-o) (by omega);rw[show o+(op.g-o)=op.g by omega]at hr;have hrp:p<=r:=cn λh=>by have:=p1 r _ h hr.g;omega
  have he:bB t r q:=.single (.inr ⟨.marked hrq (.inr hr.act) hq (λk hk _=>p2 k (by omega)),hr.heard,hh⟩);have hle:i<=r:=cn λdW=>hr.after i dW D5 hc;rcases cA i r with dW|l7
  ·exact .trans (.single (.inl ⟨dW,op.g,D5,hr.g⟩)) he
  ·obtain rfl:i=r:=by omega
   exact he
 obtain⟨B,hB⟩:=q48 t;refine⟨⟨B,tr.ct.nr,λi a ha hm=>?_,λi g D5 eD hc=>?_,h0,hB⟩,tr.seen,tr.mem,tr.ct.quiet,λop dU=>?_⟩
 ·rcases tr.known i a ha with h|h|⟨g,h1,h2,h3⟩
  ·exact .inl h
  ·exact .inr h
  ·refine .inl ?_;obtain⟨z,hz,hz0⟩:=ao.1 hg;exact⟨q,z,hz,hz0,.inr (late h1 h2 ⟨a,ha,hm,.inl h3⟩)⟩
 ·rcases cA g o with dW|l7
  ·exact tr.hand i g D5 eD dW hc
  ·exact⟨q,hg,late D5 l7 hc⟩
 ·obtain⟨i,hi,rfl⟩:=Array.mem_iff_getElem.1 dU;have:=tr.ct.gs i _ (aF hi);omega
end
section
variable [Payload] (P:aw) (ty:aJ) (o Wg C n:Nat) (SB:Blocks) (qw:Nat->Blocks->aL->ae->Prop) (K:aa->ae->Prop) (L0:Nat) (w0:ae)
structure Joined (gs:Array aa) (a:aa) (w:ae) (t:aB) (D:Nat->WX) (FM:Blocks) (q:Nat->Nat):Prop where
 size:gs.size=o+n
 main:gs[0]?=some a
 k:K a w
 leavers:bk P t gs q
 past:vz (λb=>SB b\/b=Wg) w gs.size t
 res:∀i,i<n->qw i (D i).F (D i).val w/\Has C i (D i).val w
 pay:bX C n w
 sep:Sep Wg C SB n D FM (λ_=>False) w
 kept:Kept Wg C L0 w0 n D (λ_=>False) w
end
section
variable [Payload] {P:aw} {ty:aJ} {o Wg C n:Nat} {SB:Blocks} {qw:Nat->Blocks->aL->ae->Prop} {K:aa->ae->Prop} {L0:Nat} {w0:ae} {gs:Array aa} {w w':ae} {sl:Option (Nat×Nat)} {j:Nat} {D:Nat->WX} {q:Nat->Nat} {tag tag':Tag} {f0 f' d0:Nat} {rk A8:Rank} {FM OM xH xD:Blocks} {a a':aa} {t:aB} {st sm st' sm':Int} {es:Array bi}
section
variable (qx:∀i F v w w1,qw i F v w->Ext F w w1->qw i F v w1) (ha:gs[0]?=some a) (eP:Kept Wg C L0 w0 j D OM w) (S:Sep Wg C SB j D FM OM w) (eU:WgAt ty Wg w st sm)
include qx ha eP S eU
theorem q25 (dO:xu P ty o Wg C n SB qw j gs w t D q 0) (dM:Mo j (xd D) .acq st sm) (eY:JT n .acq j)
  (h:Goes P true (RM ty Wg FM) DC0 (iA P (.acquire (stA Wg)) K) f0 a w):
  (∃eH a' ops q',runT P (crowd gs w sl) 0=(.next (crowd eH w sl),ops)/\Joined P o Wg C n SB qw K L0 w0 eH a' w (t++ops) D FM q')\/
  Out P ty o Wg C n SB qw K L0 w0 gs w sl t 0 (psi n (Vc j (xd D)) .acq+iw j D,ranks n D .leaf,f0+2*jI j D+2*sumTo o q):=by
 rcases az h with eu|⟨m',rfl,dH⟩
 ·left;obtain⟨_,a',hgo,hk⟩:=eu w (ja w);obtain⟨hq,rfl,rfl⟩:=dM.fin_inv trivial;obtain rfl:j=n:=eY;have dU:=dO.uU;have hst:∀i,i<j->(D i).stage=1:=λi hi=>by
   have:=hq i hi;simp only[xd]at this;split at this
   ·omega
   ·exact this
  have dZ:=bj (P:=P) (sl:=sl) (i:=0) ha (show au P (0==0) a w=_ from hgo);have gF:=dO.step0 (fn:=a.frame.fn) (pos:=a.frame.place) qx S (es:=#[mk (.acquire (stA Wg))]) (w':=w) (a:=a) (a':=a') (λi hi=>⟨Ext.refl ..,bh w⟩) (jm _)
   (R3 (by intro e he y hy;simp at he;subst he;cases hy)) (by intro e he y hy;simp at he;subst he;cases hy) (Ms (by simp)) (by intro e he y hy;simp at he;subst he;cases hy) dO.pay
  have e1:av 0 a.frame.fn a.frame.place #[mk (.acquire (stA Wg))]=#[{g:=0,fn:=a.frame.fn,pos:=a.frame.place,act:=.mark (.acquire (stA Wg))}]:=by rw[ofEvents_eq];simp[ofEvent_mk]
  have hy:(t++#[({g:=0,fn:=a.frame.fn,pos:=a.frame.place,act:=.mark (.acquire (stA Wg))}:MemOp)])[t.size]?=some {g:=0,fn:=a.frame.fn,pos:=a.frame.place,act:=.mark (.acquire (stA Wg))}:=by simp
  have hP:=Yu gF.tr dU (q:=t.size) (by rw[e1,act?_of hy]) (by rw[e1];simp[bP]) (by rw[e1];exact⟨0,by simp[bP],by rw[deaf_old (jm _)];exact dO.deaf0⟩)
   (λi hi=>by
    obtain⟨r,hr⟩:=dO.rel i hi (by rw[hst i hi];omega)
    exact⟨r,hr.appOther g_of_ofEvents (by omega),lt_of_act? hr.act⟩) (by rw[gF.deaf0];rfl)
  have O4:∀i,i<j->∃g,((gs.map (woken P a a' w)).setIfInBounds 0 a')[o+i]?=some g/\QuitsD P (D i).fuel (D i).deaf g/\qw i (D i).F (D i).val w:=λi hi=>by
   obtain⟨g,hg,hs⟩:=gF.wk i hi;have h1:=hst i hi;cases hs with
   |own h9 _ _ _=>omega
   |lib h hr=>exact⟨g,hg,h.quits h1,hr⟩
  refine⟨_,a',_,λi=>if i<o then q i else(D (i-o)).fuel,dZ,by simp[dO.size],bq _ _ _ (by rw[dO.size];omega),hk,⟨λi g h0 hg=>?_,λk pY=>?_⟩,?_,λi hi=>⟨?_,?_⟩,dO.pay,S.none,eP.none⟩
  ·show QuitsD P (if i<o then q i else(D (i-o)).fuel) _ g;by_cases dW:i<o
   ·rw[if_pos dW];exact gF.old i g h0 dW hg
   ·rw[if_neg dW];have hi:i<o+j:=by have:=(yc hg).1;rw[gF.size]at this;exact this
    obtain⟨g',fU,Cb,_⟩:=O4 (i-o) (by omega);rw[show o+(i-o)=i by omega]at fU;obtain rfl:g=g':=by rw[hg]at fU;exact xoi fU
    have:=gF.deafW (i-o) (by omega);rw[show o+(i-o)=i by omega]at this;rw[this];exact Cb
  ·rw[gF.size]at pY;exact gF.above k pY
  ·rw[gF.size];exact hP
  ·exact(O4 i hi).choose_spec.2.2
  ·exact dO.has i hi (by rw[hst i hi];omega)
 ·right;obtain⟨a',w',es,hgo,hD,fU⟩:=dH w (ja w);exact sM qx ha dO S eP eU dM eY hgo hD (.acq fU) (by omega)
end
theorem WS.running_of {d:WX} (h:WS P ty Wg C n qw i d g w) (hs:d.stage≠1):g.status=.running:=by
 cases h with
 |own h1 h2 h3 h=>exact KW (λ_ _ _ _ x=>x.1) h
 |lib h hr=>exact h.running_of hs
theorem someone_runs (ha:gs[0]?=some a) (jM:MS P ty Wg C n qw K tag f0 d0 rk FM OM a w) (dO:xu P ty o Wg C n SB qw j gs w t D q d0) (dM:Mo j (xd D) tag st sm):
  ∃(i:Nat) (g:aa),gs[i]?=some g/\g.status=.running:=by
 rcases jM.status with⟨hs,_⟩|⟨_,rfl⟩
 ·exact⟨0,a,ha,hs⟩
 ·have xs:∀{i:Nat},(xd D i).stage≠1->(D i).stage≠1:=λ{i} h e=>h (by simp only[xd,e];rfl);cases dM with
  |opn h1 _ _=>exact h1.elim
  |reg _ _ h3=>
   obtain⟨i,hi,h5⟩:=exists_counted h3;obtain⟨g,hg,hs⟩:=dO.wk i hi;exact⟨o+i,g,hg,hs.running_of (xs (by omega))⟩
  |last L _ h2 h3 _=>
   obtain⟨g,hg,hs⟩:=dO.wk L h2;exact⟨o+L,g,hg,hs.running_of (xs (by omega))⟩
  |sema h1 _=>rcases h1 with h1|h1<;>cases h1
  |fin h1 _=>exact h1.elim
theorem all_awake (ha:gs[0]?=some a) (jM:MS P ty Wg C n qw K tag f0 d0 rk FM OM a w) (dO:xu P ty o Wg C n SB qw j gs w t D q d0):∀g∈gs,awake g:=by
 intro g hg tm;obtain⟨i,hi⟩:=Array.mem_iff_getElem?.1 hg;rcases aQ i with rfl|jE
 ·rw[ha]at hi;cases hi;rcases jM.status with⟨hs,_⟩|⟨hs,_⟩<;>rw[hs]<;>simp
 ·by_cases dW:i<o
  ·rcases(dO.old i g jE dW hi).status with h|h<;>rw[h]<;>simp
  ·have DZ:i<o+j:=by have:=(yc hi).1;rw[dO.size]at this;exact this
   obtain⟨g',fU,hs⟩:=dO.wk (i-o) (by omega);rw[show o+(i-o)=i by omega]at fU;rw[hi]at fU;cases fU;rcases hs.status with h|h<;>rw[h]<;>simp
theorem X3 (qx:∀i F v w w1,qw i F v w->Ext F w w1->qw i F v w1) (hn:n<2147483648):∀(μ:Mea) (m:Machine) (t:aB),sI P ty o Wg C n SB qw K L0 w0 μ m t->
  (∃eH a' w' sl' ops D FM q',stepT P m=(.next (crowd eH w' sl'),ops)/\Joined P o Wg C n SB qw K L0 w0 eH a' w' (t++ops) D FM q')\/
  (∃m' ops μ',stepT P m=(.next m',ops)/\MLt (n+1) μ' μ/\sI P ty o Wg C n SB qw K L0 w0 μ' m' (t++ops)):=by
 rintro μ m t ⟨gs,w,sl,j,D,q,tag,f0,d0,rk,FM,OM,a,st,sm,rfl,ha,jM,dO,S,eU,dM,eY,eP,rfl⟩;obtain⟨i,g,d,sl',hg,dZ,dH⟩:=crowd_pick (P:=P) (w:=w) (sl:=sl) (all_awake ha jM dO) (someone_runs ha jM dO dM);rw[dH];have jM:=jM.rely (w1:=w.at d) ⟨⟨jm _,λ_ _=>rfl⟩,λx=>x⟩;have dO:=dO.at qx d;have eU:WgAt ty Wg (w.at d) st sm:=eU;have S:Sep Wg C SB j D FM OM (w.at d):=⟨S.wF,S.wO,S.apart,S.mF,S.mO,S.lW,S.lC,S.lS,S.hCW,S.sW,S.sC⟩
 have eP:Kept Wg C L0 w0 j D OM (w.at d):=⟨eP.keep,eP.lW,eP.lC,eP.lO,eP.lM,eP.tape,eP.os,eP.output,eP.nb⟩
 generalize w.at d=w at*;have dU:=dO.uU;rcases aQ i with rfl|jE
 ·obtain rfl:g=a:=by rw[ha]at hg;exact(xoi hg).symm
  cases jM with
  | @wg r _ _ _ _ _ hr h=>
   right;cases rk with
   |node f=>exact jbt qx ha eP S eU dO dM eY hr h
   |leaf=>
    have hs:=h w (Ext.refl ..);cases r with
    |zero=>
     obtain⟨A,tF,rW,m₂,hk⟩:=hs.2 ⟨_,_,eU⟩;obtain⟨m₁,ops,μ',h1,h2,h3⟩:=Pk (sl:=sl') qx ha eP S eU tF rW dO (dM.reopen trivial trivial rfl (by simp)) eY hk;exact⟨m₁,ops,μ',h1,h2.lt1 (by simp only[psi];omega),h3⟩
    |succ r=>
     obtain⟨m₂,hk⟩:=hs.2 ⟨_,_,eU⟩;obtain⟨m₁,ops,μ',h1,h2,h3⟩:=Qt (sl:=sl') qx ha eP S eU dO (dM.reopen (tag':=.kdS r) trivial trivial rfl (by simp)) (by have:j+(r+1)=n:=eY;show j+r+1=n;omega) (by omega) hk;exact⟨m₁,ops,μ',h1,h2.lt1 (by simp only[psi];omega),h3⟩
  |kdS hr h=>exact .inr (Qt qx ha eP S eU dO dM eY hr h)
  |ad hr h=>exact .inr (ZR qx hn ha eP S eU dO dM eY hr h)
  |rs hr h=>exact .inr (jba qx ha eP S eU dO dM eY hr h)
  |en hr h=>exact .inr (ZG qx ha eP S eU dO dM eY hr h)
  |gos hr h=>exact .inr (ZE qx ha eP S eU dO dM eY hr h)
  |kd h1 h2 h=>exact .inr (Pk qx ha eP S eU h1 h2 dO dM eY h)
  |anch h1 h2 h=>exact .inr (V6 qx hn ha eP S eU h1 h2 dO dM eY h)
  |ld h1 h2 h=>exact .inr (PE qx hn ha eP S eU h1 h2 dO dM eY h)
  |cs h1 h2 h=>exact .inr (ZK qx hn ha eP S eU h1 h2 dO dM eY h)
  |ws h=>exact .inr (jbu qx ha eP S eU dO dM eY h)
  |sm h=>exact .inr (jbh qx ha eP S eU dO dM eY h)
  |blk h=>simp at dZ
  |l2 h=>exact .inr (jac qx ha eP S eU dO dM eY h)
  |en2 h=>exact .inr (q3l qx ha eP S eU dO dM eY h)
  |acq h=>
   rcases q25 (sl:=sl') qx ha eP S eU dO dM eY h with⟨eH,a',ops,q',h1,h2⟩|h
   ·exact .inl ⟨eH,a',w,sl',ops,D,FM,q',h1,h2⟩
   ·exact .inr h
 ·right;by_cases dW:i<o
  ·exact q5t ha jM dO S eY eP eU (λtag' ht=>dM.retag ht) jE dW hg dZ
  ·have DZ:i<o+j:=by have:=(yc hg).1;rw[dO.size]at this;exact this
   obtain⟨i',rfl⟩:∃i',i=o+i':=⟨i-o,by omega⟩
   have eX:i'<j:=by omega
   obtain⟨g',fU,hs⟩:=dO.wk i' eX;obtain rfl:g=g':=by rw[hg]at fU;exact xoi fU
   cases hs with
   |own h9 hd hf hw=>
    generalize MR:(D i').rank=Kn at hw;cases Kn with
    |leaf=>exact Ws qx ha jM dO S eY eP eU dM eX hg h9 hd (hw w (Ext.refl ..))
    |node f=>exact q5v qx ha jM dO S eY eP eU dM eX hg h9 hd MR hw
   |lib h hr=>exact q46 qx hn ha jM dO S eY eP eU dM eX hg dZ h hr
theorem WI (qx:∀i F v w w1,qw i F v w->Ext F w w1->qw i F v w1) (hn:n<2147483648):∀(μ:Mea) (m:Machine) (t:aB),sI P ty o Wg C n SB qw K L0 w0 μ m t->
  ∃N eH a' w' sl' t' D FM q',runNT P N m t=(.next (crowd eH w' sl'),t')/\Joined P o Wg C n SB qw K L0 w0 eH a' w' t' D FM q':=by
 intro μ;induction μ using(MLt.wf (n+1)).induction with
 |_ μ ih=>
  intro m t h;rcases X3 qx hn μ m t h with⟨eH,a',w',sl',ops,D,FM,q',h1,h2⟩|⟨m',ops,μ',h1,h2,h3⟩
  ·exact⟨1,eH,a',w',sl',_,D,FM,q',by simp only[runNT,h1],h2⟩
  ·obtain⟨N,eH,a',w',sl',t',D,FM,q',h4,h5⟩:=ih μ' h2 m' _ h3;exact⟨N+1,eH,a',w',sl',t',D,FM,q',by simp only[runNT,h1];exact h4,h5⟩
end
theorem runNT_trans {P:aw} (a:Nat) {b:Nat} {m m':Machine} {t':aB} {r:Stepped×aB} (h:runNT P a m t=(.next m',t')) (k:runNT P b m' t'=r):runNT P (a+b) m t=r:=by
 rw[runNT_add,h];exact k
theorem nP.app {u:aB} {l:Loc} (h:nP t l) (hu:∀op∈u,∀x,op.act.touch?=some x->x.loc≠l):nP (t++u) l:=by
 intro i a ha;obtain⟨op,dU,qP⟩:=bT ha;rcases aS dU with⟨hi,eZ⟩|⟨_,ru⟩
 ·exact h i a (by rw[touchAt_of eZ];exact qP)
 ·exact hu op ru a qP
theorem vz.at {SB:Blocks} (h:vz SB w n t) (d:Nat):vz SB (w.at d) n t:=⟨h.past,h.seen,h.mem,h.quiet,h.gs⟩
section
variable {P:aw} {SB:Blocks}
theorem Yw:∀(M:Nat) (gs:Array aa) (a:aa) (w:ae) (sl:Option (Nat×Nat)) (t:aB) (q:Nat->Nat),sumTo gs.size q<=M->gs[0]?=some a->a.status=.running->bk P t gs q->vz SB w gs.size t->
  ∃(N:Nat) (eH:Array aa) (iN:Option (Nat×Nat)) (d1:Nat) (sl':Option (Nat×Nat)) (t':aB) (q':Nat->Nat) (d:Nat),
   runNT P N (crowd gs w sl) t=(.next (crowd eH (w.at d1) iN),t')/\stepT P (crowd eH (w.at d1) iN)=runT P (crowd eH (w.at d) sl') 0/\eH.size=gs.size/\eH[0]?=some a/\bk P t' eH q'/\vz SB w eH.size t'/\∀l,nP t l->nP t' l:=by
 intro M;induction M with
 |zero|succ M ih=>
  intro gs a w sl t q hM h0 dZ hL hP;have haw:∀g∈gs,awake g:=by
   intro g hg;obtain⟨i,hi,rfl⟩:=Array.mem_iff_getElem.1 hg;rcases aQ i with rfl|jE
   ·have:gs[0]=a:=by simpa[aF hi]using h0
    rw[this];exact awake_of (.inl dZ)
   ·exact awake_of ((hL.old i _ jE (aF hi)).status.elim .inl λx=>.inr (.inr x))
  obtain⟨i,g,d,sl',hi,hg,hst⟩:=crowd_pick (P:=P) (w:=w) (sl:=sl) haw ⟨0,a,h0,dZ⟩;rcases aQ i with rfl|jE
  ·exact⟨0,gs,sl,w.drawn,sl',t,q,d,rfl,hst,rfl,h0,hL,hP,λ_ h=>h⟩
  ·have hq:=hL.old i g jE hi;have Uj:(i==0)=false:=by simp;omega
   have dW:i<gs.size:=(yc hi).1;cases MV:q i with
   |zero=>rw[MV]at hq;rw[hq.1]at hg;cases hg
   |succ k=>
    rw[MV]at hq;rcases hq with⟨hf,_⟩|⟨_,g',es,hm,Cz,Cb⟩
    ·rw[hf]at hg;cases hg
    have o8:=bj (P:=P) (sl:=sl') (i:=i) hi (by rw[Uj];exact Cz (w.at d));have eT:((gs.map (woken P g g' (w.at d))).setIfInBounds i g').size=gs.size:=by simp
    have N8:sumTo gs.size (upd q i k)+(k+1)=sumTo gs.size q+k:=by
     have:=sumTo_upd q k id dW;simpa[MV]using this
    first
    |(exfalso;omega)
    |obtain⟨N,eH,iN,d1,NV,t',q',d',hr,l6,hz,rZ,rV,nT,jJ⟩:=ih ((gs.map (woken P g g' (w.at d))).setIfInBounds i g') a (w.at d) sl' (t++av i g.frame.fn g.frame.place es) (upd q i k) (by rw[eT];omega)
      (by
       have eD:i≠0:=by omega
       rw[xne eD,bF,h0]
       simp[woken_run dZ]) dZ
      ⟨λj x hj hx=>by
       by_cases JV:i=j
       ·subst JV;rw[xsl (by simpa using dW)]at hx;obtain rfl:=xoi hx;rw[al,Deaf_own];exact Cb
       ·rw[xne JV,bF]at hx;obtain⟨y,hy,rfl⟩:=ao.1 hx;have TY:=hL.old j y hj hy;rw[bD TY,ay q k (Ne.symm JV),bp t JV _ (λop dU=>by obtain⟨e,_,rfl⟩:=ak dU;rfl)];exact TY,λj hj=>by
       rw[bp t (g':=i) (by simp at hj;omega) _ (λop dU=>by obtain⟨e,_,rfl⟩:=ak dU;rfl)]
       exact hL.above j (by simpa using hj)⟩
      (by rw[eT];exact(hP.at d).mute (by omega) dW hm)
     exact⟨N+1,eH,iN,d1,NV,t',q',d',by simp only[runNT,hst,o8];exact hr,l6,hz.trans eT,rZ,rV,⟨nT.past,nT.seen,nT.mem,nT.quiet,nT.gs⟩,
      λl hl=>jJ l (hl.app λop dU x hx=>by
       obtain⟨e,he,rfl⟩:=ak dU
       rw[touch_mute (hm e he)]at hx;cases hx)⟩
def EvZ (SB:Blocks) (B:Nat) (e:bi):Prop:=EvL (ShB SB) B e/\∀y,(aj e).touch?=some y->y.loc.isMemory=true
theorem vz.evs (h:vz SB w n t) (hn:0<n) (eT:w.heap.size<=w'.heap.size) (iL:∀e∈es,EvZ SB w'.heap.size e) (fn:aK) (pos:String):vz SB w' n (t++av 0 fn pos es):=by
 obtain⟨B,hP⟩:=h.past;refine⟨⟨max B w'.heap.size,(hP.mono (Nat.le_max_left ..)).own λe he=>?_⟩,I4 (λop dU=>(h.seen op dU).mono eT) (λop dU=>?_),Dy h.mem (λop dU x hx=>?_),h.quiet.app λop dU x hx hs=>?_,λop dU=>?_⟩
 ·have:=(iL e he).1;exact⟨this.1,this.2.1,this.2.2.1,MemAct.low_mono (Nat.le_max_right ..) this.2.2.2⟩
 ·obtain⟨e,he,rfl⟩:=ak dU;exact BL (iL e he).1.2.2.2
 ·obtain⟨e,he,rfl⟩:=ak dU;exact(iL e he).2 x hx
 ·obtain⟨e,he,rfl⟩:=ak dU;exact⟨(iL e he).1.1 x hx hs,λ_=>rfl⟩
 ·rcases bQ.1 dU with h'|h'
  ·exact h.gs op h'
  ·obtain⟨e,he,rfl⟩:=ak h';exact hn
theorem BS {gs:Array aa} {a:aa} {sl:Option (Nat×Nat)} {q:Nat->Nat} (h0:gs[0]?=some a) (dZ:a.status=.running) (hL:bk P t gs q) (hP:vz SB w gs.size t)
  (hs:∀d,∃a' w' es,au P true a (w.at d)=.go a' w' es/\w.heap.size<=w'.heap.size/\∀e∈es,EvZ SB w'.heap.size e):
  ∃(N:Nat) (eH:Array aa) (a':aa) (d:Nat) (w':ae) (es:Array bi) (sl':Option (Nat×Nat)) (t':aB) (q':Nat->Nat),
   runNT P N (crowd gs w sl) t=(.next (crowd eH w' sl'),t')/\au P true a (w.at d)=.go a' w' es/\eH.size=gs.size/\eH[0]?=some a'/\bk P t' eH q'/\vz SB w' eH.size t'/\
   ∀l,nP t l->(∀e∈es,∀x,(aj e).touch?=some x->x.loc≠l)->nP t' l:=by
 obtain⟨N,eH,iN,d1,sl',t',q',d,hr,hst,hz,rZ,rV,nT,jJ⟩:=Yw (P:=P) _ gs a w sl t q (jm _) h0 dZ hL hP;obtain⟨a',w',es,hgo,eT,kF⟩:=hs d;have o8:=bj (P:=P) (sl:=sl') (i:=0) rZ (show au P (0==0) a (w.at d)=_ from hgo);have dW:0<eH.size:=(yc rZ).1;have tO:((eH.map (woken P a a' w')).setIfInBounds 0 a').size=eH.size:=by simp
 refine⟨N+1,(eH.map (woken P a a' w')).setIfInBounds 0 a',a',d,w',es,sl',t'++av 0 a.frame.fn a.frame.place es,q',?_,hgo,tO.trans hz,by simp[dW],⟨λj x hj hx=>?_,λj hj=>?_⟩,?_,λl hl he=>?_⟩
 ·rw[show N+1=N+1 from rfl];exact runNT_trans _ hr (by simp only[runNT,hst,o8])
 ·have eD:0≠j:=by omega
  rw[xne eD,bF]at hx;obtain⟨y,hy,rfl⟩:=ao.1 hx;have hq:=rV.old j y hj hy;rw[bD hq,bp t' (by omega) _ (λop dU=>by obtain⟨e,_,rfl⟩:=ak dU;rfl)];exact hq
 ·rw[bp t' (g':=0) (by simp at hj;omega) _ (λop dU=>by obtain⟨e,_,rfl⟩:=ak dU;rfl)];exact rV.above j (by simpa using hj)
 ·rw[tO];exact(nT.at d).evs dW eT kF _ _
 ·refine(jJ l hl).app λop dU x hx=>?_;obtain⟨e,h1,rfl⟩:=ak dU;exact he e h1 x hx
theorem Yb {R:ae->ae->Prop} {Stop:aa->ae->Prop} (hR:∀w d,R w (w.at d)) (hs:∀g w,Stop g w->g.status=.running):∀(n:Nat) (gs:Array aa) (a:aa) (w:ae) (sl:Option (Nat×Nat)) (t:aB) (q:Nat->Nat),gs[0]?=some a->bk P t gs q->vz SB w gs.size t->
   Goes P true R DC0 Stop n a w->
   ∃(N:Nat) (eH:Array aa) (a':aa) (d:Nat) (sl':Option (Nat×Nat)) (t':aB) (q':Nat->Nat),
    runNT P N (crowd gs w sl) t=(.next (crowd eH (w.at d) sl'),t')/\eH.size=gs.size/\eH[0]?=some a'/\Stop a' (w.at d)/\bk P t' eH q'/\vz SB (w.at d) eH.size t':=by
 intro n;induction n with
 |zero=>exact λgs a w sl t q h0 hL hP hG=>⟨0,gs,a,w.drawn,sl,t,q,rfl,rfl,h0,hG w (hR w w.drawn),hL,hP⟩
 |succ n ih=>
  intro gs a w sl t q h0 hL hP hG;rcases hG with eu|⟨dZ,dH⟩
  ·exact⟨0,gs,a,w.drawn,sl,t,q,rfl,rfl,h0,eu w (hR w w.drawn),hL,hP⟩
  have key:∀d,∃a',au P true a (w.at d)=.go a' (w.at d) #[]/\Goes P true R DC0 Stop n a' (w.at d):=λd=>by
   have:=dH (w.at d) (hR w d);cases hgo:au P true a (w.at d)with
   |go a' w' es=>
    rw[hgo,goes_go]at this;obtain⟨⟨rfl,rfl⟩,hG'⟩:=this;exact⟨a',rfl,hG'⟩
   |_=>rw[hgo]at this;exact this.elim
  obtain⟨N,jV,a1,d,w1,gq,iN,t1,q1,hr,hgo,hz,nI,tC,tu,_⟩:=BS (P:=P) (SB:=SB) (sl:=sl) h0 dZ hL hP λd=>let⟨a',h1,_⟩:=key d;⟨a',_,_,h1,jm _,by simp⟩;obtain⟨a',h1,h2⟩:=key d;rw[hgo]at h1;cases h1;obtain⟨N',eH,a',d',sl',t',q',fO,yG,rZ,hS,rV,nT⟩:=ih jV _ (w.at d) iN t1 q1 nI tC tu h2;exact⟨N+N',eH,a',d',sl',t',q',runNT_trans _ hr fO,yG.trans hz,rZ,hS,rV,nT⟩
end
section
variable [Payload] {P:aw} {ty:aJ} {Wg C n:Nat} {SB:Blocks} {qw:Nat->Blocks->aL->ae->Prop} {K:aa->ae->Prop} {L0:Nat} {gs:Array aa} {w:ae} {sl:Option (Nat×Nat)} {q:Nat->Nat} {F O:Blocks} {a:aa} {t:aB}
theorem phase (qx:∀i F v w w1,qw i F v w->Ext F w w1->qw i F v w1) (hn:n<2147483648) (h0:gs[0]?=some a) (hL:bk P t gs q) (hP:vz SB w gs.size t) (jJ:∀x:Addr,x.block=Wg->nP t (.cell x))
  (Gt:WG P true (Scr P ty Wg C n qw K n) F O a w) (eU:WgAt ty Wg w 0 0) (kV:bX C n w) (hF:∀b,F b->b<w.heap.size/\b≠Wg/\b≠C/\¬SB b) (hO:∀b,O b->F b)
  (lW:Wg<w.heap.size) (lC:C<w.heap.size) (lS:∀b,SB b->b<w.heap.size) (hCW:C≠Wg) (sW:¬SB Wg) (sC:¬SB C) (kW:L0<=Wg) (kC:L0<=C) (kO:∀b,O b->L0<=b):
  ∃N eH a' w' sl' t' D FM q',runNT P N (crowd gs w sl) t=(.next (crowd eH w' sl'),t')/\Joined P gs.size Wg C n SB qw K L0 w eH a' w' t' D FM q':=by
 obtain⟨rk,Gt⟩:=Gt;have jE:0<gs.size:=(yc h0).1;obtain⟨B,EX⟩:=hP.past
 let D:Nat->WX:=λ_=>⟨0,0,0,.leaf,λ_=>False,λ_=>False,.bool false⟩
 have kn:∀i x,touchAt t i=some x->¬ShP Wg SB x.loc->Knows t 0 i:=λi x hx hs=>by
  rcases EX.known i x hx (hP.mem i x hx)with h|⟨⟨c,h1,h2⟩,_⟩
  ·exact h
  ·exact absurd ⟨c,h1,.inl h2⟩ hs
 have tr:xQ gs.size Wg C SB 0 D w t:=by
  refine⟨⟨λi op x hi hx hs=>?_,λk k1 kj l ⟨i,hi,_⟩=>absurd hi (aq i),λk k1 kj l ⟨i,hi,_⟩=>absurd hi (aq i),λl hs _ i x hx e=>kn i x hx (e▸hs),λl hs _ i x hx e _=>kn i x hx (e▸hs),EX.clean,λi op hi=>?_⟩,
   ⟨t.size,jm _,λi g hi hg=>?_,λi hi he=>?_⟩,λi g hg eD dW hc=>EX.over i g hg eD hc,λi x hx=>?_,hP.mem,hP.seen⟩
  ·obtain⟨c,h1,h2|h2⟩:=hs
   ·exact hP.quiet i op x hi hx ⟨c,h1,h2⟩
   ·exact absurd h1 (jJ c h2 i x (by rw[touchAt_of hi];exact hx))
  ·have:=hP.gs op (bd hi);omega
  ·obtain⟨op,ho,rfl⟩:=ao.1 hg;exact hP.gs op (bd ho)
  ·have:=lt_of_act? he;omega
  ·rcases EX.known i x hx (hP.mem i x hx)with h|⟨⟨c,h1,h2⟩,h3⟩
   ·exact .inl h
   ·exact .inr (.inl ⟨⟨c,h1,.inl h2⟩,h3⟩)
 have jM:MS P ty Wg C n qw K (.wg n) 0 0 rk F O a w:=.wg (jm _) Gt;have dO:xu P ty gs.size Wg C n SB qw 0 gs w t D q 0:=⟨rfl,λi g hi _ hg=>hL.old i g hi hg,λi hi=>absurd hi (aq i),tr,EX.hears,λi hi=>absurd hi (aq i),hL.above,λi hi=>absurd hi (aq i),λi hi=>absurd hi (aq i),kV,jE⟩
 have S:Sep Wg C SB 0 D F O w:=⟨λi hi=>absurd hi (aq i),λi hi=>absurd hi (aq i),λi _ hi=>absurd hi (aq i),λb hb=>let⟨h1,h2,h3,h4⟩:=hF b hb;⟨h1,h2,h3,h4,λi hi=>absurd hi (aq i)⟩,λb hb=>⟨hO b hb,λi hi=>absurd hi (aq i)⟩,lW,lC,lS,hCW,sW,sC⟩
 have hm:Mo 0 (xd D) (.wg n) 0 0:=by
  have:=Mo.opn (j:=0) (D:=xd D) (tag:=.wg n) trivial (λi hi=>absurd hi (aq i)) (by simp);simpa[Vc,sumTo,kK]using this
 have hj:JT n (.wg n) 0:=Nat.zero_add n;have hk:Kept Wg C L0 w 0 D O w:=⟨λ_ _=>rfl,kW,kC,λi hi=>absurd hi (aq i),kO,rfl,rfl,rfl,id⟩
 exact WI (o:=gs.size) qx hn _ (crowd gs w sl) t ⟨gs,w,sl,0,D,q,.wg n,0,0,rk,F,O,a,0,0,rfl,h0,jM,dO,S,eU,hm,hj,hk,rfl⟩
end
end
section
abbrev link:Go.Conc.Lib.WgLink:={add:=23,done:=25,wait:=27,relMerge:=39,disable:=40,enable:=41,inBubble:=42,associate:=43,fatal:=44,uOr:=45,uAdd:=46,raceRead:=47,uLoad:=48,uStore:=49,disassociate:=50,semrelease:=51,acquire:=54,isAssociated:=55,uCas:=56,raceWrite:=57,semacquire:=58,orU64:=72,addU64:=73,loadU64:=74,storeU64:=75,casU64:=79,tWgP:=115,tUP:=117,tAssoc:=118,tWg:=85,tAU:=82,tU64:=80,tUint:=122,tU32:=83,tPU32:=123,tPAU:=150,tPU64:=152,tNoCopy:=77,tANoCopy:=78,tAlign64:=79}
theorem Ho:Go.Conc.Lib.WgLib prog link:=
 ⟨func23,func25,func27,func39,func40,func41,func42,func43,func44,func45,func46,func47,func48,func49,func50,func51,func54,func55,func56,func57,func58,func72,func73,func74,func75,func79,underlying115,Try.runUnderlying115,Try.sizeOf115,Try.isAgg115,Try.zeroValue115,underlying117,Try.runUnderlying117,Try.sizeOf117,Try.isAgg117,Try.zeroValue117,underlying118,Try.runUnderlying118,Try.sizeOf118,Try.isAgg118,Try.zeroValue118,underlying85,Try.runUnderlying85,Try.sizeOf85,Try.isAgg85,Try.zeroValue85,underlying82,Try.runUnderlying82,Try.sizeOf82,Try.isAgg82,Try.zeroValue82,underlying80,Try.runUnderlying80,Try.sizeOf80,Try.isAgg80,Try.zeroValue80,underlying122,Try.runUnderlying122,Try.sizeOf122,Try.isAgg122,Try.zeroValue122,underlying83,Try.runUnderlying83,Try.sizeOf83,Try.isAgg83,Try.zeroValue83,underlying123,Try.runUnderlying123,Try.sizeOf123,Try.isAgg123,Try.zeroValue123,underlying150,Try.runUnderlying150,Try.sizeOf150,Try.isAgg150,Try.zeroValue150,underlying152,Try.runUnderlying152,Try.sizeOf152,Try.isAgg152,Try.zeroValue152,underlying0,Try.runUnderlying0,Try.sizeOf0,Try.isAgg0,Try.zeroValue0,underlying3,Try.runUnderlying3,Try.sizeOf3,Try.isAgg3,Try.zeroValue3,underlying4,Try.runUnderlying4,Try.sizeOf4,Try.isAgg4,Try.zeroValue4,underlying9,Try.runUnderlying9,Try.sizeOf9,Try.isAgg9,Try.zeroValue9,underlying20,Try.runUnderlying20,Try.sizeOf20,Try.isAgg20,Try.zeroValue20,underlying21,Try.runUnderlying21,Try.sizeOf21,Try.isAgg21,Try.zeroValue21,(by kernel_rfl),(by kernel_rfl)⟩
end
end Ph
namespace Sim
open Go Go.Conc
def shf (τ:Tape) (δ:Nat×Nat) (w:ae):ae:={w with tape:=τ,drawn:=w.drawn-δ.1+δ.2}
def Fit (τ:Tape) (δ:Nat×Nat) (w:ae):Prop:=δ.1<=w.drawn/\∀i q,w.drawn<=i->τ (i-δ.1+δ.2) q=w.tape i q
def CU {α:Type} (f:ae->ae):Result α->Result α|.ok a w=>.ok a (f w)|.halt h w=>.halt h (f w)
theorem q17 (P:aw) (w:ae) (τ:Tape) (δ:Nat×Nat) (a:Addr) (u:aJ) (k:Addr) (b:Bool):(shf τ δ w).seen P a u k b=w.seen P a u k b:=rfl
theorem Yt (P:aw) (w:ae) (τ:Tape) (δ:Nat×Nat) (a:Addr) (b:Bool):(shf τ δ w).farLoad P a b=w.farLoad P a b:=rfl
theorem Xo {A:Type} {τ:Tape} (fo:Except String A) (g g':A->Except String (ae×List Addr)) (h:∀c,∃h l,g c=.ok ({w with heap:=h},l)/\g' c=.ok (shf τ δ {w with heap:=h},l)):
  (∃e,(fo >>= g)=.error e/\(fo >>= g')=.error e)\/∃h l,(fo >>= g)=.ok ({w with heap:=h},l)/\(fo >>= g')=.ok (shf τ δ {w with heap:=h},l):=by
 cases fo with
 |error e=>exact .inl ⟨e,rfl,rfl⟩
 |ok c=>exact .inr (h c)
theorem YW (P:aw) (w:ae) (τ:Tape) (δ:Nat×Nat) (a:Addr) (u:aJ) (k:Addr) (v:aL) (b:Bool):
  (∃e,w.viewStore P a u k v b=.error e/\(shf τ δ w).viewStore P a u k v b=.error e)\/
  ∃h l,w.viewStore P a u k v b=.ok ({w with heap:=h},l)/\(shf τ δ w).viewStore P a u k v b=.ok (shf τ δ {w with heap:=h},l):=by
 unfold World.viewStore;rw[q17];generalize w.seen P a u k b=r;generalize tight P P.depth u=t;cases t with
 |false=>exact .inl ⟨_,rfl,rfl⟩
 |true=>
  cases r with
  |error e=>exact .inl ⟨_,rfl,rfl⟩
  |ok r=>
   obtain⟨c,e,frozen,first,like,cells⟩:=r;generalize v.bytes?=vb;cases vb with
   |none=>exact .inl ⟨_,rfl,rfl⟩
   |some bs=>
    dsimp only;by_cases hb:some bs.length≠like.bytes?.map (·.length)
    ·left;refine⟨_,if_pos hb,?_⟩;exact if_pos hb
    ·rcases Xo (cells.foldlM (init:=c) _) (λc=>pure ({w with heap:=w.heap.setIfInBounds a.block (.cells c e frozen)},cells.map λ(i,_,_)=>{block:=a.block,off:=i}))
      (λc=>pure ({shf τ δ w with heap:=w.heap.setIfInBounds a.block (.cells c e frozen)},cells.map λ(i,_,_)=>{block:=a.block,off:=i})) (w:=w) (τ:=τ) (δ:=δ) (λc=>⟨_,_,rfl,rfl⟩)with⟨e1,h1,h2⟩|⟨h,l,h1,h2⟩
     ·exact .inl ⟨e1,(if_neg hb).trans h1,(if_neg hb).trans h2⟩
     ·exact .inr ⟨h,l,(if_neg hb).trans h1,(if_neg hb).trans h2⟩
theorem YE (P:aw) (w:ae) (τ:Tape) (δ:Nat×Nat) (a:Addr) (v:aL) (b:Bool):
  (∃e,w.farStore P a v b=.error e/\(shf τ δ w).farStore P a v b=.error e)\/
  ∃h l,w.farStore P a v b=.ok ({w with heap:=h},l)/\(shf τ δ w).farStore P a v b=.ok (shf τ δ {w with heap:=h},l):=by
 unfold World.farStore;have hh:(shf τ δ w).heap[a.block]?=w.heap[a.block]?:=rfl;have fq:(shf τ δ w).noCell a "store: no such cell" =w.noCell a "store: no such cell" :=rfl;rw[hh,fq];cases ho:w.heap[a.block]? with
 |none=>exact .inl ⟨_,rfl,rfl⟩
 |some o=>
  cases o with
  |view at_ u=>
   dsimp only;rcases YW P w τ δ at_ u a v b with⟨e,e1,e2⟩|⟨h,l,e1,e2⟩
   ·exact .inl ⟨.unsupported (.unsafePointer e),by rw[e1],by rw[e2]⟩
   ·exact .inr ⟨h,l,by rw[e1],by rw[e2]⟩
  |_=>exact .inl ⟨_,rfl,rfl⟩
theorem Yp {α:Type} (P:aw) (m:Mode) (a:Addr) (v:aL) (k:Sem α) {τ:Tape} (ih:∀(w:ae) (es:Array bi),Fit τ δ w->
  k.runT P (shf τ δ w) es=(CU (shf τ δ) (k.runT P w es).1,(k.runT P w es).2)/\Fit τ δ (rw0 (k.runT P w es).1)) (w:ae) (es:Array bi) (hw:Fit τ δ w):
  storeT P m a v k (shf τ δ w) es=(CU (shf τ δ) (storeT P m a v k w es).1,(storeT P m a v k w es).2)/\Fit τ δ (rw0 (storeT P m a v k w es).1):=by
 unfold storeT;have hc:(shf τ δ w).cell? a=w.cell? a:=rfl;have hf:(shf τ δ w).frozen? a=w.frozen? a:=rfl;simp only[hc,hf];cases hq:w.cell? a with
 |some v0=>
  dsimp only;cases JR:w.frozen? a with
  |true=>exact⟨rfl,hw⟩
  |false=>exact ih (w.setCell a v) _ hw
 |none=>
  dsimp only;rcases YE P w τ δ a v (m== .atomic)with⟨e,e1,e2⟩|⟨h,l,e1,e2⟩
  ·simp only[e1,e2];exact⟨rfl,hw⟩
  ·simp only[e1,e2];exact ih {w with heap:=h} _ hw
theorem Xt {α:Type} {τ:Tape}:∀(a:Ask α) (w:ae),Fit τ δ w->(shf τ δ w).ask a=((w.ask a).1,shf τ δ (w.ask a).2)/\Fit τ δ (w.ask a).2:=by
 intro a;induction a with
 |done a=>intro w h;exact⟨rfl,h⟩
 |ask what range k ih=>
  intro w h;unfold World.ask;dsimp only;have e:∀q,(shf τ δ w).tape (shf τ δ w).drawn q=w.tape w.drawn q:=λq=>h.2 w.drawn q (jm _);split
  ·rename_i hf;exact ih 0 w h
  ·rename_i hf;rw[e];have e2:({shf τ δ w with drawn:=(shf τ δ w).drawn+1}:ae)=shf τ δ {w with drawn:=w.drawn+1}:=by
    have:=h.1;unfold shf;simp only[World.mk.injEq,true_and,and_true];omega
   rw[e2];exact ih _ {w with drawn:=w.drawn+1} ⟨cf h.1,λi q hi=>h.2 i q (bE hi)⟩
theorem Wq {τ:Tape} (c:Sys) (w:ae) (h:Fit τ δ w):(shf τ δ w).sys c=((w.sys c).1,shf τ δ (w.sys c).2)/\Fit τ δ (w.sys c).2:=by
 unfold World.sys;have e:bG c (shf τ δ w).os=bG c w.os:=rfl;rw[e];obtain⟨h1,h2⟩:=Xt (bG c w.os) w h;rw[h1];generalize w.ask (bG c w.os)=r at*;obtain⟨⟨a,os⟩,w1⟩:=r;cases a<;>first|exact⟨rfl,h⟩|exact⟨rfl,h2⟩
theorem Wy {α:Type} (P:aw) {τ:Tape}:∀(s:Sem α) (w:ae) (es:Array bi),Fit τ δ w->
  s.runT P (shf τ δ w) es=(CU (shf τ δ) (s.runT P w es).1,(s.runT P w es).2)/\Fit τ δ (rw0 (s.runT P w es).1):=by
 intro s;induction s with
 |pure a=>intro w es h;exact⟨rfl,h⟩
 |halt x=>intro w es h;exact⟨rfl,h⟩
 |load m a k ih=>
  intro w es h;unfold bU;have nD:(shf τ δ w).cell? a=w.cell? a:=rfl;simp only[nD,Yt];cases hc:w.cell? a with
  |some v=>exact ih v w _ h
  |none=>
   dsimp only;cases hf:w.farLoad P a (m== .atomic)with
   |error x=>exact⟨rfl,h⟩
   |ok r=>exact ih r.1 w _ h
 |store m a v k ih=>cases v<;>first|(intro w es h;exact⟨rfl,h⟩)|exact Yp P m a _ k ih
 |new o k ih=>intro w es h;exact ih _ {w with heap:=w.heap.push o} es h
 |shape r k ih=>intro w es h;exact ih _ w es h
 |freeze a n k ih=>
  intro w es h;have e:(shf τ δ w).freeze a n=shf τ δ (w.freeze a n):=by unfold World.freeze;simp only[shf];split<;>rfl
  have e1:(w.freeze a n).drawn=w.drawn:=by unfold World.freeze;split<;>rfl
  have e2:(w.freeze a n).tape=w.tape:=by unfold World.freeze;split<;>rfl
  have h':=ih (w.freeze a n) es ⟨by rw[e1];exact h.1,λi q hi=>by rw[e2];exact h.2 i q (by rw[e1]at hi;exact hi)⟩;unfold bU;rw[e];exact h'
 |frozen a k ih=>intro w es h;exact ih _ w es h
 |getObj r k ih=>
  intro w es h;unfold bU;have hc:(shf τ δ w).heap[r]?=w.heap[r]?:=rfl;simp only[hc];cases ho:w.heap[r]? with
  |none=>exact⟨rfl,h⟩
  |some o=>cases o<;>first|exact⟨rfl,h⟩|exact ih _ w _ h
 |setObj r o k ih=>
  intro w es h;unfold bU;have hc:(shf τ δ w).heap[r]?=w.heap[r]?:=rfl;simp only[hc];cases ho:w.heap[r]? with
  |none=>exact⟨rfl,h⟩
  |some o'=>cases o'<;>first|exact⟨rfl,h⟩|exact ih {w with heap:=w.heap.setIfInBounds r o} _ h
 |choose q k ih=>
  intro w es h;unfold bU;by_cases hf:q.forced=true
  ·simp only[hf,if_true];exact ih 0 w es h
  ·simp only[hf,aH,if_false];have e:(shf τ δ w).tape (shf τ δ w).drawn q=w.tape w.drawn q:=h.2 w.drawn _ (jm _);rw[e];have e2:({shf τ δ w with drawn:=(shf τ δ w).drawn+1}:ae)=shf τ δ {w with drawn:=w.drawn+1}:=by
    have:=h.1;unfold shf;simp only[World.mk.injEq,true_and,and_true];omega
   rw[e2];exact ih _ {w with drawn:=w.drawn+1} es ⟨cf h.1,λi q hi=>h.2 i q (bE hi)⟩
 |sys c k ih=>
  intro w es h;unfold bU;obtain⟨h1,h2⟩:=Wq c w h;rw[h1];exact ih _ _ _ h2
 |program k ih=>intro w es h;exact ih P w es h
 |mark m k ih=>intro w es h;exact ih w _ h
theorem shr {α:Type} {P:aw} {s:Sem α} {r:Result α} {gq:Array bi} (hr:s.runT P w es=(r,gq)) {τ:Tape} (h:Fit τ δ w):s.runT P (shf τ δ w) es=(CU (shf τ δ) r,gq)/\Fit τ δ (rw0 r):=by
 have:=Wy P s w es h;rw[hr]at this;exact this
def ShS (f:ae->bZ) (w:ae):Prop:= ∀g1 w1 es,f w=.go g1 w1 es->∀τ δ,Fit τ δ w->f (shf τ δ w)=.go g1 (shf τ δ w1) es/\Fit τ δ w1
theorem ShS.go:ShS (λw=>.go g w es) w:=by
 intro g1 w1 es h;cases h;exact λτ δ h=>⟨rfl,h⟩
theorem ShS.ended {f:ae->bZ} {o:Outcome} {w2:ae} (h:f w=.ended o w2 es):ShS f w:=λg1 w1 es e=>by rw[h]at e;cases e
section
variable {X:Cx} {Fb:aK->Bool} {wr:Bool} {sp:aK->Bool} {ρ:Rel}
theorem Le (hw:WR X ρ w w') (hm:fr.mode=.run) (hk:fr.kind=.normal)
  {s s':Sem Next} (hs:SS X ρ s s' (λρ1 n n'=>NR X ρ1 n n')):ShS (λw=>aN X.P true fr cs none s w) w:=by
 have e1:(fr.kind==bH)=false:=by rw[hk];rfl
 have raised:∀vs,fr.raise vs={fr with mode:=.panicking vs}:=λvs=>by unfold cq;rw[hm]
 intro g1 w1 es hgo;rcases hr:s.runT X.P w #[]with⟨r,fM⟩
 unfold aN at hgo⊢;simp only[if_true]at hgo⊢;rw[hr]at hgo;cases r with
 |halt h wx=>
  have fO:s.run X.P w=.halt h wx:=by rw[<-aZ X.P s w #[],hr]
  obtain⟨qD,-⟩:=hs.2 w w' h wx hw fO;cases h with
  |panic v=>
   simp only[aO]at hgo;cases hgo;refine λτ δ hτ=>?_;obtain⟨d3,d4⟩:=shr hr hτ;refine⟨?_,d4⟩;rw[d3];rfl
  |unsupported u=>
   cases u with
   |initOrder b=>exact qD.elim
   |_=>simp only[aO]at hgo;cases hgo
  |stuck m=>simp only[aO]at hgo;cases hgo
  |_=>exact qD.elim
 |ok n wx=>
  have fO:s.run X.P w=.ok n wx:=by rw[<-aZ X.P s w #[],hr]
  obtain⟨ρ1,n',fQ,gq,h1,h2,h3,h4,h5,h6,h7⟩:=hs.1 w w' n wx #[] hw fO;cases h6<;>
  ·simp only[aO]at hgo;cases hgo;refine λτ δ hτ=>?_;obtain⟨d3,d4⟩:=shr hr hτ;refine⟨?_,d4⟩;rw[d3];rfl
theorem K7 (hw:WR X ρ w w') (qN:pI ρ fr.roundOf dY.roundOf) (hk:fr.kind=.normal) (jump:Option Code) (hj:∀c,jump=some c->X.C c) (m:Bool) (eD:fr.roundOf.isSome->cs≠[]):
  ShS (λw=>sN X.P m fr cs jump w) w:=by
 rcases qN with⟨e1,e2⟩|⟨l,l',e1,e2,hl⟩
 ·unfold sN;rw[e1];dsimp only;cases jump with
  |none=>exact ShS.go
  |some c=>cases c<;>first|exact ShS.go|exact ShS.ended rfl
 ·intro g1 w1 es hgo;unfold sN at hgo⊢;rw[e1]at hgo⊢;dsimp only at hgo⊢;rcases hr:(bV l jump).runT X.P w #[]with⟨r,fM⟩
  rw[hr]at hgo;cases r with
  |halt h wx=>cases hgo
  |ok v wx=>
   cases cs with
   |nil=>exact absurd rfl (eD (by rw[e1];rfl))
   |cons c cs=>
    unfold doReturn at hgo;simp only[hk,aO]at hgo;cases hgo;refine λτ δ hτ=>?_;obtain⟨d3,d4⟩:=shr hr hτ;refine⟨?_,d4⟩;rw[d3];simp only[CU,doReturn,hk,aO]
theorem Qh (S:X.Set Fb wr sp) (hf:FR X Fb wr ρ fr dY) (hw:WR X ρ w w') (hm:fr.mode=.run) (m:Bool) (eD:fr.roundOf.isSome->cs≠[]):
  ShS (λw=>am X.P m true fr cs none w) w:=by
 obtain⟨fn,tmps,todo,defers,mode,kind,ro⟩:=fr;obtain⟨fn',kJ,todo',defers',pO,kind',kH⟩:=dY;have ht:IsR X Fb wr ρ todo todo':=hf.todo;obtain rfl:fn'=fn:=hf.fn;have hk:kind=.normal:=hf.kind;have gy:∀c,codeOk X.P X.P' Fb wr c=true->X.C c:=λc h=>(S.c c).2 h;unfold am;cases ht with
 |nil=>exact K7 hw hf.round hk none (λc e=>by cases e) m eD
 | @cons i i' l l' a b=>
  cases a with
  |inBlock id=>exact ShS.go
  |inLoop c=>exact ShS.go
  |inRangeFunc r=>exact ShS.ended rfl
  |beginRound=>
   refine Le (fr:=⟨fn',tmps,_,defers,mode,kind,ro⟩) (s':=do(kH.elim (Go.stuck "beginRound: no round") br:Sem Unit);Pure.pure .skip) hw hm hk ?_;have qN:pI ρ ro kH:=hf.round;rcases qN with⟨rfl,rfl⟩|⟨l,l',rfl,rfl,hl⟩
   ·exact SS.dies (qo.xq (qo.stuck _))
   ·exact(SS.beginRound hl).bind λ_ _ _ _ _=>SS.pure .skip
  | @endRangeFunc l l' r=>
   intro g1 w1 es hgo;dsimp only at hgo⊢;rcases hr:(bM l).runT X.P w #[]with⟨r0,fM⟩
   rw[hr]at hgo;cases r0 with
   |halt h wx=>
    cases h with
    |panic v=>
     cases hgo;refine λτ δ hτ=>?_;obtain⟨d3,d4⟩:=shr hr hτ;refine⟨?_,d4⟩;rw[d3];rfl
    |_=>cases hgo
   |ok j wx=>
    cases hgo;refine λτ δ hτ=>?_;obtain⟨d3,d4⟩:=shr hr hτ;refine⟨?_,d4⟩;rw[d3];rfl
  | @inRegion ops td c=>
   cases td with
   |nil=>exact ShS.go
   |cons i td=>
    dsimp only;by_cases dQ:((ops[i]?).map (aP · (bL ops tmps))).getD false=true
    ·simp only[if_pos dQ];cases ho:ops[i]? with
     |none=>rw[ho]at dQ;cases dQ
     |some o=>
      have fu:=BN c ho;have nd:∀c,o.op≠.defer c:=λc e=>by
       unfold jL at fu;rw[e]at fu;simp at fu
      have vD:(⟨fn',tmps,.inRegion ops (i::td)::l,defers,mode,kind,ro⟩:ai).oper?=some o:=ho;have e:(λw=>aW X.P true (⟨fn',tmps,.inRegion ops (i::td)::l,defers,mode,kind,ro⟩:ai) cs none w)=
        λw=>aN X.P true (⟨fn',tmps,.inRegion ops (i::td)::l,defers,mode,kind,ro⟩:ai) cs none (ca (bw (⟨fn',tmps,.inRegion ops (i::td)::l,defers,mode,kind,ro⟩:ai)) o) w:=by
       funext w;unfold aW;rw[vD];dsimp only;split
       ·rename_i e;exact absurd e (nd _)
       ·rfl
      rw[e];exact Le hw hm hk (SS.execOp S.ok wr S.wrs o fu _ _ (hf.eval S))
    ·simp only[if_neg dQ];exact ShS.go
  | @code c hc=>
   cases c with
   |skip=>exact ShS.go
   |ret=>exact K7 (fr:=⟨fn',tmps,_,defers,mode,kind,ro⟩) hw hf.round hk (some .ret) (λc e=>by cases e;exact gy _ rfl) m eD
   |seq x y=>exact ShS.go
   |cond x y z=>
    dsimp only;generalize bw _ x=v;cases v<;>first|exact ShS.go|exact ShS.ended rfl
   |block id c=>exact ShS.go
   |loop c=>exact ShS.go
   |exit id=>
    dsimp only;cases aE id l with
    |none=>exact K7 (fr:=⟨fn',tmps,_,defers,mode,kind,ro⟩) hw hf.round hk (some (.exit id)) (λc e=>by cases e;exact gy _ rfl) m eD
    |some k=>exact ShS.go
   |region id ops draw=>
    cases draw with
    |false=>exact ShS.go
    |true=>
     intro g1 w1 es hgo;dsimp only at hgo⊢;simp only[bN,aH,if_false]at hgo⊢;rcases hr:(choose (.order fn' id)).runT X.P w #[]with⟨r0,fM⟩
     have fO:(choose (.order fn' id)).run X.P w=r0:=by rw[<-aZ X.P _ w #[],hr]
     rw[fO]at hgo;cases r0 with
     |halt h wx=>cases hgo
     |ok t wx=>
      cases hgo;refine λτ δ hτ=>?_;obtain⟨d3,d4⟩:=shr hr hτ;refine⟨?_,d4⟩;have:(choose (.order fn' id)).run X.P (shf τ δ w)=.ok t (shf τ δ w1):=by rw[<-aZ X.P _ _ #[],d3];rfl
      rw[this]
   |rangeFunc f params assign body=>
    simp only[codeOk,bz]at hc;obtain⟨iZ,kP,vL⟩:=hc;have hG:X.G fn':=hf.same;intro g1 w1 es hgo;dsimp only at hgo⊢;rcases hr:(bC fn' tmps params assign body ro).runT X.P w #[]with⟨r0,fM⟩
    have uy:=SS.enterLoop hG hf.tmps params (gy _ kP) (gy _ vL) hf.round;rw[hr]at hgo;cases r0 with
    |halt h wx=>cases hgo
    |ok p wx=>
     obtain⟨l1,mark⟩:=p;obtain⟨ρ1,p',fQ,gq,h1,h2,h3,h4,h5,⟨h6,nG⟩,h7⟩:=uj uy hw hr;obtain⟨wV,iP⟩:=p';dsimp only at h6 nG hgo;have fD:=hf.mono h3.le;have uw:FR X Fb wr ρ1 ⟨fn',tmps,.inRangeFunc l1::l,mark++defers,mode,kind,ro⟩ ⟨fn',kJ,.inRangeFunc wV::l',iP++defers',pO,kind',kH⟩:=
      ⟨fD.fn,fD.same,fD.tmps,.cons (.inRangeFunc h6) (b.mono h3.le),nG.append fD.defers,fD.mode,fD.run,fD.kind,fD.kind',fD.round⟩
     have ap:=Le (cs:=cs) (fr:=⟨fn',tmps,.inRangeFunc l1::l,mark++defers,mode,kind,ro⟩) h2 hm hk (SS.iterate S.ok (λ_=>rfl) (λ_=>rfl) ((uw.eval S).1 f iZ) h6);obtain⟨oU,k1,k2⟩:=I9 hgo;refine λτ δ hτ=>?_;obtain⟨d3,d4⟩:=shr hr hτ;obtain⟨q3,q4⟩:=ap g1 w1 oU k1 τ δ d4;refine⟨?_,q4⟩;rw[d3];dsimp only[CU];have k3:es=seen X.P fn' fM++oU:=by cases k2;rfl
     rw[k3];exact congrArg (aO _) q3
   |_=>simp[codeOk]at hc
theorem Rb (S:X.Set Fb wr sp) (hf:FR X Fb wr ρ fr dY) (hw:WR X ρ w w') (hm:fr.mode=.returning) (m:Bool) (eD:fr.defers≠[]\/cs≠[]):
  ShS (λw=>unwind X.P m fr cs none w) w:=by
 obtain⟨fn,tmps,todo,defers,mode,kind,ro⟩:=fr;obtain⟨fn',kJ,todo',defers',pO,kind',kH⟩:=dY;obtain rfl:fn'=fn:=hf.fn;obtain rfl:mode=.returning:=hm;obtain rfl:kind=.normal:=hf.kind;have hd:DsR ρ defers defers':=hf.defers;intro g1 w1 es hgo;cases hd with
 | @cons r r' l l' a b=>
  unfold unwind at hgo⊢;dsimp only at hgo⊢;rcases hr:(bI r).runT X.P w #[]with⟨r0,fM⟩
  rw[hr]at hgo;cases r0 with
  |halt h wx=>cases hgo
  |ok v wx=>
   cases hgo;refine λτ δ hτ=>?_;obtain⟨d3,d4⟩:=shr hr hτ;refine⟨?_,d4⟩;rw[d3];rfl
 |nil=>
  have eD:cs≠[]:=eD.resolve_left (λh=>h rfl);obtain⟨f,q1,q2⟩:=hf.same;have q1:X.P.funcs[fn']?=some f:=q1;unfold unwind at hgo⊢;dsimp only at hgo⊢;rw[q1]at hgo⊢;dsimp only at hgo⊢;rcases hr:(results f tmps).runT X.P w #[]with⟨r0,fM⟩
  rw[hr]at hgo;cases r0 with
  |halt h wx=>cases h<;>cases hgo
  |ok v wx=>
   cases cs with
   |nil=>exact absurd rfl eD
   |cons c cs=>
    cases hgo;refine λτ δ hτ=>?_;obtain⟨d3,d4⟩:=shr hr hτ;refine⟨?_,d4⟩;rw[d3];rfl
theorem Z9 (S:X.Set Fb wr sp) (hf:FR X Fb wr ρ fr dY) (hw:WR X ρ w w') (m:Bool) (eD:cs≠[]):
  ShS (λw=>au X.P m (G fr cs) w) w:=by
 rcases hf.run with hm|hm
 ·have e:(λw=>au X.P m (G fr cs) w)=λw=>am X.P m true fr cs none w:=funext λw=>yj _ _ _ _ _ hm;rw[e];exact Qh S hf hw hm m (λ_=>eD)
 ·have e:(λw=>au X.P m (G fr cs) w)=λw=>unwind X.P m fr cs none w:=funext λw=>zo _ _ _ _ _ hm;rw[e];exact Rb S hf hw hm m (.inr eD)
end
def yo (f:List ai->bZ):Prop:=(∃jk up1 w1 es,∀base,f base=.go (G jk (up1++base)) w1 es)\/∀base g1 w1 es,f base≠.go g1 w1 es
theorem yo.go {f:List ai->bZ} (fr:ai) (up:List ai) (w:ae) (es:Array bi) (h:∀base,f base=.go (G fr (up++base)) w es):yo f:=.inl ⟨fr,up,w,es,h⟩
theorem yo.ended {f:List ai->bZ} (h:∀base,∃o w es,f base=.ended o w es):yo f:=.inr λbase g1 w1 es e=>by
 obtain⟨o,w,gP,h⟩:=h base;rw[h]at e;cases e
theorem yo.after {f:List ai->bZ} {fM:Array bi} (h:yo f):yo (λbase=>aO fM (f base)):=by
 rcases h with⟨jk,up1,w1,es,h⟩|h
 ·exact .inl ⟨jk,up1,w1,fM++es,λbase=>by show aO fM (f base)=_;rw[h base];rfl⟩
 ·refine .inr λbase g1 w1 es e=>?_;obtain⟨oU,k1,_⟩:=I9 e;exact h base g1 w1 oU k1
section
variable {X:Cx} {Fb:aK->Bool} {wr:Bool} {sp:aK->Bool} {ρ:Rel}
theorem DL (hw:WR X ρ w w') (hm:fr.mode=.run) (hk:fr.kind=.normal)
  {s s':Sem Next} (hs:SS X ρ s s' (λρ1 n n'=>NR X ρ1 n n')):yo (λbase=>aN X.P true fr (up++base) none s w):=by
 have e1:(fr.kind==bH)=false:=by rw[hk];rfl
 rcases hr:s.runT X.P w #[]with⟨r,fM⟩
 unfold aN;simp only[if_true,hr,e1,aH,if_false];cases r with
 |halt h wx=>
  have fO:s.run X.P w=.halt h wx:=by rw[<-aZ X.P s w #[],hr]
  obtain⟨qD,-⟩:=hs.2 w w' h wx hw fO;cases h with
  |panic v=>exact yo.after (yo.go (fr.raise [{v,recovered:=false}]) up wx #[] λ_=>rfl)
  |unsupported u=>
   cases u with
   |initOrder b=>exact qD.elim
   |_=>exact yo.after (yo.ended λ_=>⟨_,_,_,rfl⟩)
  |stuck m=>exact yo.after (yo.ended λ_=>⟨_,_,_,rfl⟩)
  |_=>exact qD.elim
 |ok n wx=>
  have fO:s.run X.P w=.ok n wx:=by rw[<-aZ X.P s w #[],hr]
  obtain⟨ρ1,n',fQ,gq,h1,h2,h3,h4,h5,h6,h7⟩:=hs.1 w w' n wx #[] hw fO;cases h6 with
  |value h=>exact yo.after (yo.go (fr.finish _) up wx #[] λ_=>rfl)
  |skip=>exact yo.after (yo.go (fr.finish ag) up wx #[] λ_=>rfl)
  |enter _ _=>exact yo.after (yo.go _ (fr::up) wx #[] λ_=>rfl)
  |round _ _ _ _ _=>exact yo.after (yo.go _ (fr::up) wx #[] λ_=>rfl)
theorem IQ (hk:fr.kind=.normal) (jump:Option Code) (m:Bool) (eD:fr.roundOf.isSome->up≠[]):
  yo (λbase=>sN X.P m fr (up++base) jump w):=by
 obtain⟨fn,tmps,todo,defers,mode,kind,ro⟩:=fr;obtain rfl:kind=.normal:=hk;unfold sN;cases ro with
 |none=>
  dsimp only;cases jump with
  |none=>exact yo.go ⟨fn,tmps,todo,defers,.returning,.normal,none⟩ up w #[] λ_=>rfl
  |some c=>cases c<;>first|exact yo.go ⟨fn,tmps,todo,defers,.returning,.normal,none⟩ up w #[] (λ_=>rfl)|exact yo.ended λ_=>⟨_,_,_,rfl⟩
 |some l=>
  dsimp only;rcases hr:(bV l jump).runT X.P w #[]with⟨r,fM⟩
  cases r with
  |halt h wx=>exact yo.after (yo.ended λ_=>⟨_,_,_,rfl⟩)
  |ok v wx=>
   cases up with
   |nil=>exact absurd rfl (eD rfl)
   |cons c up=>exact yo.after (yo.go (c.finish v) up wx #[] λ_=>rfl)
theorem Qi (S:X.Set Fb wr sp) (hf:FR X Fb wr ρ fr dY) (hw:WR X ρ w w') (hm:fr.mode=.run) (m:Bool) (eD:fr.roundOf.isSome->up≠[]):
  yo (λbase=>am X.P m true fr (up++base) none w):=by
 obtain⟨fn,tmps,todo,defers,mode,kind,ro⟩:=fr;obtain⟨fn',kJ,todo',defers',pO,kind',kH⟩:=dY;have ht:IsR X Fb wr ρ todo todo':=hf.todo;obtain rfl:fn'=fn:=hf.fn;have hk:kind=.normal:=hf.kind;have gy:∀c,codeOk X.P X.P' Fb wr c=true->X.C c:=λc h=>(S.c c).2 h;unfold am;cases ht with
 |nil=>exact IQ hk none m eD
 | @cons i i' l l' a b=>
  cases a with
  |inBlock id=>exact yo.go _ up w #[] λ_=>rfl
  |inLoop c=>exact yo.go _ up w #[] λ_=>rfl
  |inRangeFunc r=>exact yo.ended λ_=>⟨_,_,_,rfl⟩
  |beginRound=>
   refine DL (fr:=⟨fn',tmps,_,defers,mode,kind,ro⟩) (s':=do(kH.elim (Go.stuck "beginRound: no round") br:Sem Unit);Pure.pure .skip) hw hm hk ?_;have qN:pI ρ ro kH:=hf.round;rcases qN with⟨rfl,rfl⟩|⟨l,l',rfl,rfl,hl⟩
   ·exact SS.dies (qo.xq (qo.stuck _))
   ·exact(SS.beginRound hl).bind λ_ _ _ _ _=>SS.pure .skip
  | @endRangeFunc l l' r=>
   dsimp only;rcases hr:(bM l).runT X.P w #[]with⟨r0,fM⟩
   cases r0 with
   |halt h wx=>
    cases h with
    |panic v=>exact yo.after (yo.go _ up wx #[] λ_=>rfl)
    |_=>exact yo.after (yo.ended λ_=>⟨_,_,_,rfl⟩)
   |ok j wx=>exact yo.after (yo.go _ up wx #[] λ_=>rfl)
  | @inRegion ops td c=>
   cases td with
   |nil=>exact yo.go _ up w #[] λ_=>rfl
   |cons i td=>
    dsimp only;by_cases dQ:((ops[i]?).map (aP · (bL ops tmps))).getD false=true
    ·simp only[if_pos dQ];cases ho:ops[i]? with
     |none=>rw[ho]at dQ;cases dQ
     |some o=>
      have fu:=BN c ho;have nd:∀c,o.op≠.defer c:=λc e=>by
       unfold jL at fu;rw[e]at fu;simp at fu
      have vD:(⟨fn',tmps,.inRegion ops (i::td)::l,defers,mode,kind,ro⟩:ai).oper?=some o:=ho;have e:(λbase=>aW X.P true (⟨fn',tmps,.inRegion ops (i::td)::l,defers,mode,kind,ro⟩:ai) (up++base) none w)=
        λbase=>aN X.P true (⟨fn',tmps,.inRegion ops (i::td)::l,defers,mode,kind,ro⟩:ai) (up++base) none (ca (bw (⟨fn',tmps,.inRegion ops (i::td)::l,defers,mode,kind,ro⟩:ai)) o) w:=by
       funext base;unfold aW;rw[vD];dsimp only;split
       ·rename_i e;exact absurd e (nd _)
       ·rfl
      rw[e];exact DL hw hm hk (SS.execOp S.ok wr S.wrs o fu _ _ (hf.eval S))
    ·simp only[if_neg dQ];exact yo.go _ up w #[] λ_=>rfl
  | @code c hc=>
   cases c with
   |skip=>exact yo.go _ up w #[] λ_=>rfl
   |ret=>exact IQ (fr:=⟨fn',tmps,_,defers,mode,kind,ro⟩) hk (some .ret) m eD
   |seq x y=>exact yo.go _ up w #[] λ_=>rfl
   |cond x y z=>
    dsimp only;generalize bw _ x=v;cases v<;>first|exact yo.go _ up w #[] (λ_=>rfl)|exact yo.ended λ_=>⟨_,_,_,rfl⟩
   |block id c=>exact yo.go _ up w #[] λ_=>rfl
   |loop c=>exact yo.go _ up w #[] λ_=>rfl
   |exit id=>
    dsimp only;cases aE id l with
    |none=>exact IQ (fr:=⟨fn',tmps,_,defers,mode,kind,ro⟩) hk (some (.exit id)) m eD
    |some k=>exact yo.go _ up w #[] λ_=>rfl
   |region id ops draw=>
    cases draw with
    |false=>exact yo.go _ up w #[] λ_=>rfl
    |true=>
     dsimp only;simp only[bN,aH,if_false];rcases hr:(choose (.order fn' id)).run X.P w with⟨t,wx⟩|⟨h,wx⟩
     ·exact yo.go _ up wx #[] λ_=>rfl
     ·exact yo.ended λ_=>⟨_,_,_,rfl⟩
   |rangeFunc f params assign body=>
    simp only[codeOk,bz]at hc;obtain⟨iZ,kP,vL⟩:=hc;have hG:X.G fn':=hf.same;dsimp only;rcases hr:(bC fn' tmps params assign body ro).runT X.P w #[]with⟨r0,fM⟩
    have uy:=SS.enterLoop hG hf.tmps params (gy _ kP) (gy _ vL) hf.round;cases r0 with
    |halt h wx=>exact yo.after (yo.ended λ_=>⟨_,_,_,rfl⟩)
    |ok p wx=>
     obtain⟨l1,mark⟩:=p;obtain⟨ρ1,p',fQ,gq,h1,h2,h3,h4,h5,⟨h6,nG⟩,h7⟩:=uj uy hw hr;obtain⟨wV,iP⟩:=p';dsimp only at h6 nG;have fD:=hf.mono h3.le;have uw:FR X Fb wr ρ1 ⟨fn',tmps,.inRangeFunc l1::l,mark++defers,mode,kind,ro⟩ ⟨fn',kJ,.inRangeFunc wV::l',iP++defers',pO,kind',kH⟩:=
      ⟨fD.fn,fD.same,fD.tmps,.cons (.inRangeFunc h6) (b.mono h3.le),nG.append fD.defers,fD.mode,fD.run,fD.kind,fD.kind',fD.round⟩
     exact yo.after (DL (up:=up) (fr:=⟨fn',tmps,.inRangeFunc l1::l,mark++defers,mode,kind,ro⟩) h2 hm hk (SS.iterate S.ok (λ_=>rfl) (λ_=>rfl) ((uw.eval S).1 f iZ) h6))
   |_=>simp[codeOk]at hc
theorem Lp (S:X.Set Fb wr sp) (hf:FR X Fb wr ρ fr dY) (hm:fr.mode=.returning) (m:Bool) (eD:fr.defers≠[]\/up≠[]):
  yo (λbase=>unwind X.P m fr (up++base) none w):=by
 obtain⟨fn,tmps,todo,defers,mode,kind,ro⟩:=fr;obtain⟨fn',kJ,todo',defers',pO,kind',kH⟩:=dY;obtain rfl:fn'=fn:=hf.fn;obtain rfl:mode=.returning:=hm;obtain rfl:kind=.normal:=hf.kind;have hd:DsR ρ defers defers':=hf.defers;cases hd with
 | @cons r r' l l' a b=>
  unfold unwind;dsimp only;rcases hr:(bI r).runT X.P w #[]with⟨r0,fM⟩
  cases r0 with
  |halt h wx=>exact yo.after (yo.ended λ_=>⟨_,_,_,rfl⟩)
  |ok v wx=>exact yo.after (yo.go _ up wx #[] λ_=>rfl)
 |nil=>
  have eD:up≠[]:=eD.resolve_left (λh=>h rfl);obtain⟨f,q1,q2⟩:=hf.same;have q1:X.P.funcs[fn']?=some f:=q1;unfold unwind;dsimp only;rw[q1];dsimp only;rcases hr:(results f tmps).runT X.P w #[]with⟨r0,fM⟩
  cases r0 with
  |halt h wx=>cases h<;>exact yo.after (yo.ended λ_=>⟨_,_,_,rfl⟩)
  |ok v wx=>
   cases up with
   |nil=>exact absurd rfl eD
   |cons c up=>exact yo.after (yo.go (c.finish v) up wx #[] λ_=>rfl)
theorem P5 (S:X.Set Fb wr sp) (hf:FR X Fb wr ρ fr dY) (hw:WR X ρ w w') (m:Bool) (hB:Bot (fr::up)) (hgo:fr.mode=.run\/fr.defers≠[]\/up≠[]):
  yo (λbase=>au X.P m (G fr (up++base)) w):=by
 rcases hf.run with hm|hm
 ·have e:(λbase=>au X.P m (G fr (up++base)) w)=λbase=>am X.P m true fr (up++base) none w:=funext λbase=>yj _ _ _ _ _ hm;rw[e];refine Qi S hf hw hm m λh hu=>?_;subst hu;have:=hB fr (by simp);rw[this]at h;cases h
 ·have e:(λbase=>au X.P m (G fr (up++base)) w)=λbase=>unwind X.P m fr (up++base) none w:=funext λbase=>zo _ _ _ _ _ hm;rw[e];exact Lp S hf hm m (hgo.resolve_left (by rw[hm];intro h;cases h))
end
end Sim
namespace Ph
open Go Go.Conc Go.ConcN Sim
structure Same (w wc:ae):Prop where
 heap:wc.heap=w.heap
 os:wc.os=w.os
 output:wc.output=w.output
theorem Same.refl (w:ae):Same w w:=⟨rfl,rfl,rfl⟩
section
variable {X:Cx} {Fb:aK->Bool} {SB:Blocks} {Q:ai->List ai->ae->Prop}
theorem Yx (nS:X.P'=X.P) (S:X.Set Fb true (λ_=>false)) (hQ:∀fr cs w,Q fr cs w->∀ch,fr.mode≠.panicking ch):∀{fr:ai} {cs:List ai} {w:ae},lH X.P Q fr cs w->
  ∀{ρ:Rel} {up base:List ai} {gs:Array aa} {wc:ae} {sl:Option (Nat×Nat)} {t:aB} {q:Nat->Nat},cs=up++[c0]->base≠[]->FR X Fb true ρ fr fr->FsR X Fb true ρ up up->WN X ρ w wc->Same w wc->NB w->Bot (fr::up)->
   gs[0]?=some (G fr (up++base))->bk X.P t gs q->vz SB wc gs.size t->sU SB (rng ρ) (own X ρ) wc->
   ∃(N:Nat) (eH:Array aa) (gV:ai) (xL:List ai) (w2 lV:ae) (sl':Option (Nat×Nat)) (t':aB) (q':Nat->Nat) (ρ2:Rel),
    runNT X.P N (crowd gs wc sl) t=(.next (crowd eH lV sl'),t')/\Q gV (xL++[c0]) w2/\eH.size=gs.size/\eH[0]?=some (G gV (xL++base))/\Same w2 lV/\FR X Fb true ρ2 gV gV/\FsR X Fb true ρ2 xL xL/\WN X ρ2 w2 lV/\ρ.le ρ2/\NB w2/\
     bk X.P t' eH q'/\vz SB lV eH.size t'/\sU SB (rng ρ2) (own X ρ2) lV:=by
 intro fr cs w h;induction h with
 | @done fr cs w hq=>
  rintro ρ up base gs wc sl t q rfl _ hf hu hw hs hn hB h0 hL hP hF;exact⟨0,gs,fr,up,w,wc,sl,t,q,ρ,rfl,hq,rfl,h0,hs,hf,hu,hw,ρ.le_refl,hn,hL,hP,hF⟩
 | @step fr cs w nf nc nw ne dH hm ih=>
  rintro ρ up base gs wc sl t q rfl mq hf hu hw hs hn hB h0 hL hP hF;have key:∀d,∃jk up1 w1 ρ1 es,au X.P true (G fr (up++base)) (wc.at d)=.go (G jk (up1++base)) (shf wc.tape (w.drawn,d) w1) es/\
    (∃τ,(Agree w τ)/\jk=nf τ/\up1++[c0]=nc τ/\w1=nw τ)/\FR X Fb true ρ1 jk jk/\FsR X Fb true ρ1 up1 up1/\WR X ρ1 w1 (shf wc.tape (w.drawn,d) w1)/\ρ.le ρ1/\NB w1/\Bot (jk::up1)/\
    sS (rng ρ) (own X ρ) (wc.at d) (rng ρ1) (own X ρ1) (shf wc.tape (w.drawn,d) w1) es:=λd=>by
   let τ:Tape:=λi q=>if i<w.drawn then w.tape i q else wc.tape (i-w.drawn+d) q
   have ha:Agree w τ:=λi q hi=>if_pos hi;have rz:Fit wc.tape (w.drawn,d) (re w τ):=⟨jm _,λi q hi=>by
    have eX:¬i<w.drawn:=Nat.not_lt.2 hi
    exact(if_neg eX).symm⟩
   have NA:shf wc.tape (w.drawn,d) (re w τ)=wc.at d:=by
    have h1:=hs.heap;have h2:=hs.os;have h3:=hs.output;obtain⟨hp,tp,dr,os,out⟩:=wc;simp only at h1 h2 h3;subst h1;subst h2;subst h3;simp[shf,re,World.at]
   have qL:WR X ρ (re w τ) (wc.at d):=by
    obtain⟨τ0,_,k⟩:=hw;refine⟨k.fn,k.inj,k.heap,λi q=>?_,k.sh⟩;have h1:¬w.drawn+i<w.drawn:=by omega
    have h2:w.drawn+i-w.drawn+d=d+i:=by omega
    have h3:τ (w.drawn+i) q=wc.tape (w.drawn+i-w.drawn+d) q:=if_neg h1;rw[h2]at h3;exact h3
   have hst:au X.P true (G fr (up++[c0])) (re w τ)=.go (G (nf τ) (nc τ)) (nw τ) (ne τ):=dH τ ha;by_cases hgo:fr.mode=.run\/fr.defers≠[]\/up≠[]
   ·rcases P5 S hf qL true hB hgo with⟨jk,up1,w1,es,yT⟩|yT
    ·have e1:au X.P true (G fr (up++[c0])) (re w τ)=_:=yT [c0];rw[hst]at e1;have e2:au X.P true (G fr (up++base)) (re w τ)=_:=yT base;have eD:up++base≠[]:=by simp[mq]
     obtain⟨e3,jdn⟩:=Z9 S (cs:=up++base) hf qL true eD _ _ _ e2 wc.tape (w.drawn,d) rz;rw[NA]at e3;have e3:au X.P true (G fr (up++base)) (wc.at d)=_:=e3;have out:=IG S (base:=base) (base':=base) hf hu qL hn hB hgo true true;rw[nS,e3,e2]at out;generalize hg:GStep.go (G jk (up1++base)) w1 es=s at out;cases out with
     | @nice f1 Nz u1 Kj ρ1 x1 Kh gq Mg e h1 h2 h3 h4 h5 h6 h7 h8=>
      have nR:jk=f1/\up1++base=u1++base/\w1=x1:=by
       injection hg with a b c;injection a with a1 a2;exact⟨a1,a2,b⟩
      obtain⟨rfl,qM,rfl⟩:=nR;obtain rfl:=aA qM;have Nf:jk=Nz/\up1++base=Kj++base/\shf wc.tape (w.drawn,d) w1=Kh/\es=Mg:=by
       injection e with a b c;injection a with a1 a2;exact⟨a1,a2,b,c⟩
      obtain⟨rfl,BZ,rfl,rfl⟩:=Nf;obtain rfl:=aA BZ;have qY:nf τ=jk/\nc τ=up1++[c0]/\nw τ=w1:=by
       injection e1 with a b c;injection a with a1 a2;exact⟨a1,a2,b⟩
      exact⟨jk,up1,w1,ρ1,es,e3,⟨τ,ha,qY.1.symm,qY.2.1.symm,qY.2.2.symm⟩,h1,h2,h3,h4.le,h7,h8,FI qL h4 h3 h6⟩
     |special k1 k2=>cases k2
     | @panic f1 u1 ch x1 gq h1 h2=>
      exfalso;have nR:jk={f1 with mode:=.panicking ch}/\up1++base=u1++base/\w1=x1:=by
       injection hg with a b c;injection a with a1 a2;exact⟨a1,a2,b⟩
      obtain⟨rfl,qM,rfl⟩:=nR;obtain rfl:=aA qM;have qY:nf τ={f1 with mode:=.panicking ch}/\nc τ=up1++[c0]/\nw τ=w1:=by
       injection e1 with a b c;injection a with a1 a2;exact⟨a1,a2,b⟩
      have yP:=hm τ ha;rw[qY.1,qY.2.1,qY.2.2]at yP;exact xk hQ yP trivial ⟨_,rfl⟩ (.inl ⟨_,rfl,h1,h2⟩)
     |ended=>cases hg
    ·exact absurd hst (yT _ _ _ _)
   ·exfalso;have mH:up=[]:=aT λh=>hgo (.inr (.inr h));subst mH;obtain⟨h1,h2,h3⟩:=Jb S hf qL hn (λh=>hgo (h.imp id .inl)) hst;exact xk hQ (hm τ ha) h1 h2 h3
  have jE:0<gs.size:=(yc h0).1;obtain⟨N,jV,a1,d,Ki,es,iN,t1,q1,hr,hgo,hz,nI,tC,tu,_⟩:=BS (P:=X.P) (SB:=SB) (sl:=sl) h0 rfl hL hP λd=>by
   obtain⟨jk,up1,w1,ρ1,es,e,_,_,_,_,_,_,_,ok⟩:=key d;have Cq:sU SB (rng ρ) (own X ρ) (wc.at d):=⟨hF.apart,hF.low,hF.own,hF.foot⟩
   have jK:=Cq.step ok;exact⟨_,_,es,e,ok.size,λx hx=>⟨Il (ok.ev x hx) jK.apart jK.foot,λy hy=>(KT (ok.ev x hx) hy).1⟩⟩
  obtain⟨jk,up1,w1,ρ1,gP,e,⟨τ,ha,rfl,DW,rfl⟩,h1,h2,h3,hle,h7,h8,ok⟩:=key d;rw[e]at hgo;have nR:G (nf τ) (up1++base)=a1/\shf wc.tape (w.drawn,d) (nw τ)=Ki/\gP=es:=by
   injection hgo with a b c;exact⟨a,b,c⟩
  obtain⟨rfl,rfl,rfl⟩:=nR;have Cq:sU SB (rng ρ) (own X ρ) (wc.at d):=⟨hF.apart,hF.low,hF.own,hF.foot⟩
  obtain⟨N',eH,gV,xL,w2,lV,sl',t',q',ρ2,fO,hq,yG,rZ,l6,g1,g2,g3,g4,g5,rV,nT,jK⟩:=ih τ ha DW.symm mq h1 h2 (WN.of h3) ⟨rfl,rfl,rfl⟩ h7 h8 nI tC tu (Cq.step ok);exact⟨N+N',eH,gV,xL,w2,lV,sl',t',q',ρ2,runNT_trans _ hr fO,hq,yG.trans hz,rZ,l6,g1,g2,g3,Rel.le_trans hle g4,g5,rV,nT,jK⟩
end
structure At (X:Cx) (Fb:aK->Bool) (SB:Blocks) (ρ:Rel) (gs:Array aa) (fr:ai) (cs:List ai) (w:ae) (t:aB) (q:Nat->Nat):Prop where
 g0:gs[0]?=some (G fr cs)
 leavers:bk X.P t gs q
 past:vz SB w gs.size t
 foot:sU SB (rng ρ) (own X ρ) w
 fr:FR X Fb true ρ fr fr
 cs:FsR X Fb true ρ cs cs
 wr:WR X ρ w w
 nb:NB w
def Runs (P:aw) (gs:Array aa) (w:ae) (sl:Option (Nat×Nat)) (t:aB) (eH:Array aa) (w':ae) (sl':Option (Nat×Nat)) (t':aB):Prop:= ∃N,runNT P N (crowd gs w sl) t=(.next (crowd eH w' sl'),t')
theorem Runs.trans {P:aw} {g1 g2 g3:Array aa} {w1 w2 w3:ae} {s1 s2 s3:Option (Nat×Nat)} {t1 t2 t3:aB} (h:Runs P g1 w1 s1 t1 g2 w2 s2 t2) (k:Runs P g2 w2 s2 t2 g3 w3 s3 t3):Runs P g1 w1 s1 t1 g3 w3 s3 t3:=by
 obtain⟨N,h⟩:=h;obtain⟨M,k⟩:=k;exact⟨N+M,runNT_trans _ h k⟩
def zQ (b:ai) (k:List Item):Exit->Act->ai->Prop
 |.normal,a,fr=>fr=b.at a k
 |.exit id,a,fr=>∃k',aE id k=some k'/\fr=b.at a k'
 |.ret,a,fr=>∃todo,fr={b.at a todo with mode:=.returning}
 |_,_,_=>False
def Plain (k:List Item) (Q:Exit->Act->ae->Prop):Prop:= ∀e a w,Q e a w->match e with
 |.normal|.ret=>True
 |.exit id=>∃k',aE id k=some k'
 |_=>False
def Tgt (b:ai) (k:List Item) (Q:Exit->Act->ae->Prop) (fr:ai) (cs:List ai) (w:ae):Prop:=cs=[c0]/\∃e a,Q e a w/\zQ b k e a fr
section
variable {X:Cx} {Fb:aK->Bool} {SB:Blocks}
theorem LZ (S:X.Set Fb true (λ_=>false)) {b:ai} {Q:Exit->Act->ae->Prop} (hinv:Inv X Fb true fr [c0] w) (qO:Plain k Q) (qW:∀e a w wc,Same w wc->Q e a w->Q e a wc)
  (hp:∀τ,Agree w τ->∃e a' w',Q e a' w'/\Arrives X.P (lone fr [c0] (re w τ)) b k [c0] e a' w'):lH X.P (Tgt b k Q) fr [c0] w:=by
 refine bar S (λfr cs w h ch=>?_) (λfr cs w τ hi ha h=>?_) hinv (λτ ha=>?_)
 ·obtain⟨_,e,a,_,hl⟩:=h;cases e with
  |normal=>rw[show fr=b.at a k from hl];intro h;cases h
  |exit id=>obtain⟨k',_,rfl⟩:=hl;intro h;cases h
  |ret=>obtain⟨todo,rfl⟩:=hl;intro h;cases h
  |_=>exact hl.elim
 ·obtain⟨h1,e,a,h2,h3⟩:=h;exact⟨h1,e,a,qW e a (re w τ) w ⟨rfl,rfl,rfl⟩ h2,h3⟩
 ·obtain⟨e,a',w',hq,CO⟩:=hp τ ha;have hx:=qO _ _ _ hq;have go:∀{gV:ai},zQ b k e a' gV->Steps X.P (lone fr [c0] (re w τ)) (lone gV [c0] w')->uW X.P (Tgt b k Q) fr [c0] (re w τ):=λhl hs=>by
   obtain⟨n,hn⟩:=hs;exact conv S (Q:=Tgt b k Q) ⟨rfl,e,a',hq,hl⟩ n (.inl (hinv.re τ)) hn
  cases e with
  |normal=>exact go rfl CO
  |exit id=>obtain⟨k',hk⟩:=hx;exact go ⟨k',hk,rfl⟩ (CO k' hk)
  |ret=>obtain⟨todo,hs⟩:=CO;exact go ⟨todo,rfl⟩ hs
  |_=>exact hx.elim
theorem piece (nS:X.P'=X.P) (S:X.Set Fb true (λ_=>false)) {gs:Array aa} {b:ai} {sl:Option (Nat×Nat)} {q:Nat->Nat} {Q:Exit->Act->ae->Prop}
  (h:At X Fb SB ρ gs fr cs w t q) (gD:cs≠[]) (ny:fr.roundOf=none) (qO:Plain k Q) (qW:∀e a w wc,Same w wc->Q e a w->Q e a wc)
  (hp:∀τ,Agree w τ->∃e a' w',Q e a' w'/\Arrives X.P (lone fr [c0] (re w τ)) b k [c0] e a' w'):
  ∃(eH:Array aa) (e:Exit) (a':Act) (dY:ai) (w':ae) (sl':Option (Nat×Nat)) (t':aB) (q':Nat->Nat) (ρ':Rel),
   Runs X.P gs w sl t eH w' sl' t'/\Q e a' w'/\zQ b k e a' dY/\eH.size=gs.size/\ρ.le ρ'/\At X Fb SB ρ' eH dY cs w' t' q':=by
 have hB:Bot [fr]:=by
  intro f hf;simp at hf;subst hf;exact ny
 have hinv:Inv X Fb true fr [c0] w:=⟨ρ,fr,[],[],w,rfl,h.fr,.nil,h.wr,h.nb,hB⟩
 have hm:=LZ S hinv qO qW hp;obtain⟨N,eH,gV,xL,w2,lV,sl',t',q',ρ2,hr,⟨F4,e,a',hq,hl⟩,hz,rZ,hs,g1,g2,g3,g4,g5,rV,nT,jK⟩:=Yx nS S (λfr cs w h ch=>by
   obtain⟨_,e,a,_,hl⟩:=h;cases e with
   |normal=>rw[show fr=b.at a k from hl];intro h;cases h
   |exit id=>obtain⟨k',_,rfl⟩:=hl;intro h;cases h
   |ret=>obtain⟨todo,rfl⟩:=hl;intro h;cases h
   |_=>exact hl.elim) hm (up:=[]) rfl gD h.fr .nil (WN.of h.wr) (Same.refl w) h.nb hB h.g0 h.leavers h.past h.foot
 have hu:xL=[]:=by
  have:=congrArg cr F4;simp at this;exact List.eq_nil_of_length_eq_zero (by simpa using this)
 subst hu;refine⟨eH,e,a',gV,lV,sl',t',q',ρ2,⟨N,hr⟩,qW _ _ _ _ hs hq,hl,hz,g4,⟨rZ,rV,nT,jK,g1,h.cs.mono g4,?_,?_⟩⟩
 ·obtain⟨τ0,_,k0⟩:=g3;refine⟨k0.fn,k0.inj,λ{a b} gB=>?_,λ_ _=>rfl,λa ha=>absurd ha (S.wrs rfl a)⟩;obtain⟨o,o',k1,k2,k3⟩:=k0.heap gB;exact⟨o,o',by rw[hs.heap];exact k1,k2,k3⟩
 ·exact g5
end
end Ph
namespace Sim
open Go Go.Conc
def stop (n:Nat):Item:=.code (.loop (.block n .skip))
mutual
def st:List Item->List Item
 |k=>stop k.length::sf k
termination_by k=>2*k.length+1
def sf:List Item->List Item
 |[]=>[]
 |.inBlock id::k=>.inBlock id::st k
 |_::k=>sf k
termination_by k=>2*k.length
end
theorem tY (k:List Item):st k=stop k.length::sf k:=by rw[st]
theorem Xh (id:Nat) (k:List Item):aE id (sf k)=(aE id k).map st:=by
 induction k with
 |nil=>rw[sf];rfl
 |cons a k ih=>
  cases a with
  |inBlock Ag=>
   rw[sf];unfold aE;split
   ·rfl
   ·rw[tY];show aE id (stop k.length::sf k)=_;rw[<-ih];rfl
  |_=>
   rw[sf,ih]
   ·rfl
   ·intro _ e;cases e
theorem I8 (id:Nat) (k:List Item):aE id (st k)=(aE id k).map st:=by
 rw[tY,<-Xh];rfl
theorem Jh (id:Nat) (k:List Item):∀u,aE id (u++k)=((aE id u).map (· ++k)).or (aE id k)
 |[]=>by simp[aE]
 |a::u=>by
  cases a with
  |inBlock Ag=>
   show aE id (.inBlock Ag::(u++k))=_;have e:∀l,aE id (.inBlock Ag::l)=if Ag==id then some l else aE id l:=λl=>rfl
   rw[e,e];split
   ·simp
   ·rw[Jh id k u]
  |_=>exact Jh id k u
theorem Sc {id:Nat}:∀{k k':List Item},aE id k=some k'->k' <:+ k
 |[],_,h=>by cases h
 |a::k,k',h=>by
  have key:∀{k1},aE id k=some k1->k1 <:+ a::k:=λh=>(Sc h).trans (List.suffix_cons a k);cases a with
  |inBlock Ag=>
   unfold aE at h;split at h
   ·cases h;exact List.suffix_cons _ _
   ·exact key h
  |_=>exact key h
theorem jbi {k1 k2:List Item} (h1:k1 <:+ k) (h2:k2 <:+ k) (h:st k1=st k2):k1=k2:=by
 rw[tY,tY]at h;injection h with h _;injection h with h;injection h with h;injection h with h _;exact(List.suffix_of_suffix_length_le h1 h2 (Nat.le_of_eq h)).eq_of_length h
theorem RO (P P':aw) (Fb:aK->Bool) (wr:Bool) (n:Nat):codeOk P P' Fb wr (.loop (.block n .skip))=true:=rfl
section
variable {X:Cx} {Fb:aK->Bool} {wr:Bool} {sp:aK->Bool} {ρ:Rel}
theorem IsR.sf (X:Cx) (Fb:aK->Bool) (wr:Bool) (ρ:Rel):∀k,IsR X Fb wr ρ (sf k) (sf k)
 |[]=>by rw[Sim.sf];exact .nil
 |a::k=>by
  have ih:=IsR.sf X Fb wr ρ k;cases a with
  |inBlock id=>rw[Sim.sf,tY];exact .cons (.inBlock id) (.cons (.code (RO _ _ _ _ _)) ih)
  |_=>
   rw[Sim.sf]
   ·exact ih
   ·intro _ e;cases e
theorem IsR.st (X:Cx) (Fb:aK->Bool) (wr:Bool) (ρ:Rel) (k:List Item):IsR X Fb wr ρ (st k) (st k):=by
 rw[tY];exact .cons (.code (RO _ _ _ _ _)) (IsR.sf X Fb wr ρ k)
end
def Sim.bare (o:Oper):Oper:={o with guard:=none}
inductive TS (k:List Item) (tm:Array aL):List Item->List Item->Prop
 |code (a:Item) (u:List Item):TS k tm (a::u++st k) (a::u++k)
 |op {ops:Array Oper} {i:Nat} {td:List Nat} {k0:List Item} {o:Oper}:k=.inRegion ops td::k0->ops[i]?=some o->aP o (bL ops tm)=true->
   TS k tm (.inRegion #[Sim.bare o] [0]::st k) (.inRegion ops (i::td)::k0)
def wt (f:ai) (t:List Item):ai:={f with todo:=t}
inductive Sw (k:List Item):ai->List ai->ai->List ai->Prop
 |bot {f:ai} {t t':List Item}:TS k f.tmps t t'->Sw k (wt f t) [] (wt f t') []
 |ret {f:ai} {t t':List Item}:f.mode=.returning->Sw k (wt f t) [] (wt f t') []
 |above {g:ai} {up:List ai} {f:ai} {t t':List Item}:TS k f.tmps t t'->Sw k g (up++[wt f t]) g (up++[wt f t'])
inductive Ld (k:List Item):ai->ai->Prop
 |land {f:ai} {k':List Item}:k'=k\/(∃id,aE id k=some k')->Ld k (wt f (st k')) (wt f k')
 |late {f:ai} {o:Oper}:Ld k (wt f (.inRegion #[o] []::st k)) (wt f k)
inductive Aft (k:List Item):ai->List ai->ai->List ai->Prop
 |sw {fr gr:ai} {up gup:List ai}:Sw k fr up gr gup->Aft k fr up gr gup
 |ld {fr gr:ai}:Ld k fr gr->Aft k fr [] gr []
 |panic {fr gr:ai} {ch:List PanicEntry}:fr.mode=.panicking ch->Aft k fr [] gr []
def qz (k:List Item) (base:List ai) (s s':bZ):Prop:=
 (∃jk up1 si pF w1 es,s=.go (G jk (up1++base)) w1 es/\s'=.go (G si (pF++base)) w1 es/\Aft k jk up1 si pF)\/∀g1 w1 es,s≠.go g1 w1 es
theorem qz.ended {base:List ai} {o:Outcome} {s':bZ}:qz k base (.ended o w es) s':=.inr λ_ _ _ e=>by cases e
theorem qz.after {base:List ai} {fM:Array bi} {s s':bZ} (h:qz k base s s'):qz k base (aO fM s) (aO fM s'):=by
 rcases h with⟨jk,up1,si,pF,w1,es,rfl,rfl,h⟩|h
 ·exact .inl ⟨jk,up1,si,pF,w1,fM++es,rfl,rfl,h⟩
 ·refine .inr λg1 w1 es e=>?_;obtain⟨oU,k1,_⟩:=I9 e;exact h g1 w1 oU k1
theorem qz.to {base:List ai} (f:ai) (u:List Item) (w:ae) (es:Array bi):qz k base (.go (G (wt f (u++st k)) base) w es) (.go (G (wt f (u++k)) base) w es):=by
 refine .inl ⟨wt f (u++st k),[],wt f (u++k),[],w,es,rfl,rfl,?_⟩;cases u with
 |nil=>exact .ld (.land (.inl rfl))
 |cons a u=>exact .sw (.bot (.code a u))
theorem qz.ret {k:List Item} {base:List ai} (f:ai) (t t':List Item) (hm:f.mode=.returning) (w:ae) (es:Array bi):qz k base (.go (G (wt f t) base) w es) (.go (G (wt f t') base) w es):=
 .inl ⟨wt f t,[],wt f t',[],w,es,rfl,rfl,.sw (.ret hm)⟩
theorem qz.panic {k:List Item} {base:List ai} {f g:ai} {ch:List PanicEntry} (hm:f.mode=.panicking ch) {w:ae} {es:Array bi}:qz k base (.go (G f base) w es) (.go (G g base) w es):=
 .inl ⟨f,[],g,[],w,es,rfl,rfl,.panic hm⟩
section
variable {X:Cx} {Fb:aK->Bool} {wr:Bool} {sp:aK->Bool} {ρ:Rel}
def Qr:List Item->Prop
 |.call _ _ _ _::_=>False
 |_=>True
theorem IX {base:List ai} {t:List Item} (hw:WR X ρ w w') (hm:f.mode=.run) (hk:f.kind=.normal) (hp:Qr t) (F7:Qr t')
  (zG:∀v,Aft k ((wt f t).finish v) [] ((wt f t').finish v) []) (JP:TS k f.tmps t t')
  {s s':Sem Next} (hs:SS X ρ s s' (λρ1 n n'=>NR X ρ1 n n')):qz k base (aN X.P true (wt f t) base none s w) (aN X.P true (wt f t') base none s w):=by
 have e1:((wt f t).kind==bH)=false:=by show(f.kind==_)=_;rw[hk];rfl
 have e2:((wt f t').kind==bH)=false:=e1;have Ak:(match(wt f t).todo with|.call _ true _ _::_=>bA|_=>.normal)=.normal:=by
  show(match t with|.call _ true _ _::_=>bA|_=>.normal)=.normal;split
  ·exact hp.elim
  ·rfl
 have yR:(match(wt f t').todo with|.call _ true _ _::_=>bA|_=>.normal)=.normal:=by
  show(match t' with|.call _ true _ _::_=>bA|_=>.normal)=.normal;split
  ·exact F7.elim
  ·rfl
 rcases hr:s.runT X.P w #[]with⟨r,fM⟩
 unfold aN;simp only[if_true,hr,e1,e2,aH,if_false,Ak,yR];cases r with
 |halt h wx=>
  have fO:s.run X.P w=.halt h wx:=by rw[<-aZ X.P s w #[],hr]
  obtain⟨qD,-⟩:=hs.2 w w' h wx hw fO;cases h with
  |panic v=>
   refine qz.after (qz.panic (ch:=[{v,recovered:=false}]) ?_);show((wt f t).raise _).mode=_;unfold cq;rw[show(wt f t).mode=.run from hm]
  |unsupported u=>
   cases u with
   |initOrder b=>exact qD.elim
   |_=>exact qz.after qz.ended
  |stuck m=>exact qz.after qz.ended
  |_=>exact qD.elim
 |ok n wx=>
  have fO:s.run X.P w=.ok n wx:=by rw[<-aZ X.P s w #[],hr]
  obtain⟨ρ1,n',fQ,gq,h1,h2,h3,h4,h5,h6,h7⟩:=hs.1 w w' n wx #[] hw fO;cases h6 with
  |value h=>exact qz.after (.inl ⟨_,[],_,[],_,_,rfl,rfl,zG _⟩)
  |skip=>exact qz.after (.inl ⟨_,[],_,[],_,_,rfl,rfl,zG _⟩)
  | @enter g gm ve _ _=>
   refine qz.after (.inl ⟨cG X.P g gm .normal,[wt f t],cG X.P g gm .normal,[wt f t'],wx,#[],?_,?_,.sw (.above (up:=[]) JP)⟩)
   ·rcases t with _|⟨i,l⟩
    ·rfl
    ·cases i<;>first|rfl|exact hp.elim
   ·rcases t' with _|⟨i,l⟩
    ·rfl
    ·cases i<;>first|rfl|exact F7.elim
  |round _ _ _ _ _=>exact qz.after (.inl ⟨_,[wt f t],_,[wt f t'],_,_,rfl,rfl,.sw (.above (up:=[]) JP)⟩)
end
section
variable {X:Cx} {Fb:aK->Bool} {wr:Bool} {sp:aK->Bool} {ρ:Rel}
theorem Ir (ho:ops[i]?=some o) (hr:f.roundOf=none) (base:List ai) (w:ae):
  aW X.P true (wt f (.inRegion ops (i::td)::l)) base none w=aN X.P true (wt f (.inRegion ops (i::td)::l)) base none (ca f.eval o) w:=by
 have vD:(wt f (.inRegion ops (i::td)::l)).oper?=some o:=ho;have e:(wt f (.inRegion ops (i::td)::l)).eval=f.eval:=by funext x;cases x<;>rfl
 unfold aW;rw[vD];dsimp only;rw[e];have fO:(wt f (.inRegion ops (i::td)::l)).roundOf=none:=hr;rw[fO]
theorem Q8 {P:aw} {m:Bool} (h:((ops[i]?).map (aP · (bL ops f.tmps))).getD false=true) (base:List ai) (w:ae):
  am P m true (wt f (.inRegion ops (i::td)::l)) base none w=aW P true (wt f (.inRegion ops (i::td)::l)) base none w:=by
 unfold am;exact if_pos h
theorem Q9 {P:aw} {m:Bool} (h:¬((ops[i]?).map (aP · (bL ops f.tmps))).getD false=true) (base:List ai) (w:ae):
  am P m true (wt f (.inRegion ops (i::td)::l)) base none w=.go (G ((wt f (.inRegion ops (i::td)::l)).finish ag) base) w #[]:=by
 unfold am;exact if_neg h
theorem LV {u:List Item} (v:aL):
  Aft k ((wt f (.inRegion ops (i::td)::u++st k)).finish v) [] ((wt f (.inRegion ops (i::td)::u++k)).finish v) []:=
 .sw (.bot (f:={f with tmps:=match(ops[i]?).bind (·.dst)with
        |some d=>f.tmps.setIfInBounds d v
        |none=>f.tmps}) (.code (.inRegion ops td) u))
theorem QZ {k0:List Item} (hk:k=.inRegion ops td::k0) (ho:ops[i]?=some o) (v:aL):
  Aft k ((wt f (.inRegion #[Sim.bare o] [0]::st k)).finish v) [] ((wt f (.inRegion ops (i::td)::k0)).finish v) []:=by
 have e:(wt f (.inRegion ops (i::td)::k0)).finish v=wt {f with tmps:=match o.dst with
        |some d=>f.tmps.setIfInBounds d v
        |none=>f.tmps} k:=by
  show(Frame.mk _ _ _ _ _ _ _:ai)=_;subst hk;unfold wt;simp only[ho,Option.bind_some];rfl
 rw[e];exact .ld (.late (f:={f with tmps:=match o.dst with
        |some d=>f.tmps.setIfInBounds d v
        |none=>f.tmps}) (o:=Sim.bare o))
theorem q3o (S:X.Set Fb wr sp) {base:List ai} {t:List Item} (JP:TS k f.tmps t t') (hf:FR X Fb wr ρ (wt f t) dY) (hw:WR X ρ w w') (hm:f.mode=.run) (m:Bool) (ny:f.roundOf=none):
  qz k base (am X.P m true (wt f t) base none w) (am X.P m true (wt f t') base none w):=by
 have hk:f.kind=.normal:=hf.kind;have kF:=hf.eval S;have gy:∀c,codeOk X.P X.P' Fb wr c=true->X.C c:=λc h=>(S.c c).2 h;have JY:∀t,(wt f t).eval=f.eval:=λt=>by funext x;cases x<;>rfl
 cases JP with
 | @op ops i td k0 o e ho dQ=>
  have vF:aP (Sim.bare o) (bL #[Sim.bare o] f.tmps)=true:=rfl;have ht:IsR X Fb wr ρ (.inRegion #[Sim.bare o] [0]::st k) dY.todo:=hf.todo;have fu:jL X.P X.P' Fb wr (Sim.bare o)=true:=by
   generalize dY.todo=tf at ht;cases ht with
   |cons a b=>cases a with
    |inRegion td c=>exact BN c (i:=0) rfl
  have ex:ca f.eval (Sim.bare o)=ca f.eval o:=rfl;have e1:am X.P m true (wt f (.inRegion #[Sim.bare o] [0]::st k)) base none w=aW X.P true (wt f (.inRegion #[Sim.bare o] [0]::st k)) base none w:=by
   unfold am;exact if_pos vF
  have e2:am X.P m true (wt f (.inRegion ops (i::td)::k0)) base none w=aW X.P true (wt f (.inRegion ops (i::td)::k0)) base none w:=by
   unfold am;refine if_pos ?_;show((ops[i]?).map (aP · (bL ops f.tmps))).getD false=true;rw[ho];exact dQ
  rw[e1,e2,Ir (o:=Sim.bare o) rfl ny,Ir ho ny,ex];refine IX (t:=.inRegion #[Sim.bare o] [0]::st k) (t':=.inRegion ops (i::td)::k0) hw hm hk trivial trivial (λv=>QZ e ho v) (.op e ho dQ) ?_ (s':=ca dY.eval (Sim.bare o));rw[<-ex,<-JY];exact SS.execOp S.ok wr S.wrs _ fu _ _ kF
 | @code a u=>
  have ht:IsR X Fb wr ρ (a::(u++st k)) dY.todo:=hf.todo;show qz k base (am X.P m true (wt f (a::(u++st k))) base none w) (am X.P m true (wt f (a::(u++k))) base none w);generalize htd:dY.todo=tf at ht;cases ht with
  | @cons _ i' _ l' a b=>
  unfold am;cases a with
  |inBlock id=>exact qz.to f u w #[]
  | @inLoop c=>exact qz.to f (.code c::.inLoop c::u) w #[]
  |inRangeFunc r=>exact qz.ended
  |beginRound=>
   have TF:∀t,(wt f t).roundOf=none:=λ_=>ny;dsimp only;rw[TF,TF];refine IX (t:=.beginRound::u++st k) (t':=.beginRound::u++k) hw hm hk trivial trivial (λv=>?_) (.code .beginRound u) (SS.dies (qo.xq (qo.stuck _)):SS X ρ _ (do(none.elim (Go.stuck "beginRound: no round") br:Sem Unit);Pure.pure .skip) _);cases u with
   |nil=>exact .ld (.land (f:=f) (.inl rfl))
   |cons a u=>exact .sw (.bot (f:=f) (.code a u))
  | @endRangeFunc l l' r=>
   dsimp only[wt];generalize (bM l).runT X.P w #[]=p0;obtain⟨r0,fM⟩:=p0;cases r0 with
   |halt h wx=>
    cases h with
    |panic v=>
     refine qz.after (qz.panic (ch:=[{v,recovered:=false}]) ?_);unfold cq;simp only[hm]
    |_=>exact qz.after qz.ended
   |ok j wx=>
    refine qz.after ?_;have:=qz.to (k:=k) (base:=base) f ((j.map Item.code).toList++u) wx #[];rw[aU,aU]at this;exact this
  | @inRegion ops td c=>
   cases td with
   |nil=>exact qz.to f u w #[]
   |cons i td=>
    show qz k base (am X.P m true (wt f (.inRegion ops (i::td)::(u++st k))) base none w) (am X.P m true (wt f (.inRegion ops (i::td)::(u++k))) base none w);by_cases dQ:((ops[i]?).map (aP · (bL ops f.tmps))).getD false=true
    ·rw[Q8 dQ,Q8 dQ];cases ho:ops[i]? with
     |none=>rw[ho]at dQ;cases dQ
     |some o=>
      have fu:=BN c ho;rw[Ir ho ny,Ir ho ny];refine IX (t:=.inRegion ops (i::td)::u++st k) (t':=.inRegion ops (i::td)::u++k) hw hm hk trivial trivial (λv=>LV (u:=u) v) (.code (.inRegion ops (i::td)) u) ?_ (s':=ca dY.eval o);rw[<-JY];exact SS.execOp S.ok wr S.wrs o fu _ _ kF
    ·rw[Q9 dQ,Q9 dQ];exact .inl ⟨_,[],_,[],_,_,rfl,rfl,LV (u:=u) ag⟩
  | @code c hc=>
   cases c with
   |skip=>exact qz.to f u w #[]
   |ret=>
    dsimp only[wt];simp only[ny,if_true];rw[<-ny];exact qz.ret {f with mode:=.returning} (.code .ret::(u++st k)) (.code .ret::(u++k)) rfl w #[]
   |seq x y=>exact qz.to f (.code x::.code y::u) w #[]
   |cond x y z=>
    have Um:∀t,bw {f with todo:=t} x=f.eval x:=λt=>congrFun (JY t) x;dsimp only[wt];rw[Um (.code (.cond x y z)::(u++st k)),Um (.code (.cond x y z)::(u++k))];generalize f.eval x=v;cases v<;>first|exact qz.ended|exact qz.to f (.code _::u) w #[]
   |block id c=>exact qz.to f (.code c::.inBlock id::u) w #[]
   |loop c=>exact qz.to f (.code c::.inLoop c::u) w #[]
   |exit id=>
    dsimp only[wt];simp only[ny];rw[<-ny,Jh,Jh,I8];cases h1:aE id u with
    |some u'=>exact qz.to f u' w #[]
    |none=>
     cases h2:aE id k with
     |some k'=>exact .inl ⟨wt f (st k'),[],wt f k',[],w,#[],rfl,rfl,.ld (.land (.inr ⟨id,h2⟩))⟩
     |none=>exact qz.ended
   |region id ops draw=>
    cases draw with
    |false=>exact qz.to f (.inRegion ops _::u) w #[]
    |true=>
     dsimp only[wt];simp only[bN,aH,if_false];rcases hr:(choose (.order f.fn id)).run X.P w with⟨t,wx⟩|⟨h,wx⟩
     ·exact qz.to f (.inRegion ops _::u) wx #[]
     ·exact qz.ended
   |rangeFunc g params assign body=>
    simp only[codeOk,bz]at hc;obtain⟨iZ,kP,vL⟩:=hc;have hG:X.G f.fn:=hf.same;have hfl:pI ρ f.roundOf dY.roundOf:=hf.round;have uy:=SS.enterLoop hG (show jq X.F ρ f.tmps.toList dY.tmps.toList from hf.tmps) params (gy _ kP) (gy _ vL) hfl;dsimp only[wt];generalize hr:(bC f.fn f.tmps params assign body f.roundOf).runT X.P w #[]=p0;obtain⟨r0,fM⟩:=p0;cases r0 with
    |halt h wx=>exact qz.after qz.ended
    |ok p wx=>
     obtain⟨l1,mark⟩:=p;obtain⟨ρ1,p',fQ,gq,h1,h2,h3,h4,h5,⟨h6,nG⟩,h7⟩:=uj uy hw hr;obtain⟨wV,iP⟩:=p';dsimp only at h6 nG;have OB:EvR X.F Fb ρ1 f.eval dY.eval:=by
      have:=(hf.mono h3.le).eval S;rw[JY]at this;exact this
     exact qz.after (IX (f:={f with defers:=mark++f.defers}) (t:=.inRangeFunc l1::u++st k) (t':=.inRangeFunc l1::u++k) h2 hm hk trivial trivial
      (λv=>.sw (.bot (f:={f with defers:=mark++f.defers}) (.code (.endRangeFunc l1) u))) (.code (.inRangeFunc l1) u) (SS.iterate S.ok (λ_=>rfl) (λ_=>rfl) (OB.1 g iZ) h6))
   |_=>simp[codeOk]at hc
end
def BcS (f:List ai->bZ):Prop:=yo f\/∃v w1 es,∀c base,f (c::base)=.go (G (Frame.finish c v) base) w1 es
theorem BcS.of {f:List ai->bZ} (h:yo f):BcS f:=.inl h
section
variable {X:Cx} {Fb:aK->Bool} {wr:Bool} {sp:aK->Bool} {ρ:Rel}
theorem K8 (hk:fr.kind=.normal) (jump:Option Code) (m:Bool):BcS (λbase=>sN X.P m fr base jump w):=by
 cases ny:fr.roundOf with
 |none=>exact .inl (IQ (up:=[]) hk jump m (by rw[ny];intro h;cases h))
 |some l=>
  obtain⟨fn,tmps,todo,defers,mode,kind,ro⟩:=fr;obtain rfl:kind=.normal:=hk;obtain rfl:ro=some l:=ny;unfold sN;dsimp only;rcases hr:(bV l jump).runT X.P w #[]with⟨r,fM⟩
  cases r with
  |halt h wx=>exact .inl (yo.after (yo.ended λ_=>⟨_,_,_,rfl⟩))
  |ok v wx=>exact .inr ⟨v,wx,seen X.P fn fM++#[],λc base=>rfl⟩
theorem q3n (S:X.Set Fb wr sp) (hf:FR X Fb wr ρ fr dY) (hw:WR X ρ w w') (hm:fr.mode=.run) (m:Bool):
  BcS (λbase=>am X.P m true fr base none w):=by
 obtain⟨fn,tmps,todo,defers,mode,kind,ro⟩:=fr;obtain⟨fn',kJ,todo',defers',pO,kind',kH⟩:=dY;have ht:IsR X Fb wr ρ todo todo':=hf.todo;obtain rfl:fn'=fn:=hf.fn;have hk:kind=.normal:=hf.kind;have gy:∀c,codeOk X.P X.P' Fb wr c=true->X.C c:=λc h=>(S.c c).2 h;unfold am;cases ht with
 |nil=>exact K8 hk none m
 | @cons i i' l l' a b=>
  cases a with
  |inBlock id=>exact BcS.of<|yo.go _ [] w #[] λ_=>rfl
  |inLoop c=>exact BcS.of<|yo.go _ [] w #[] λ_=>rfl
  |inRangeFunc r=>exact BcS.of<|yo.ended λ_=>⟨_,_,_,rfl⟩
  |beginRound=>
   refine BcS.of<|DL (up:=[]) (fr:=⟨fn',tmps,_,defers,mode,kind,ro⟩) (s':=do(kH.elim (Go.stuck "beginRound: no round") br:Sem Unit);Pure.pure .skip) hw hm hk ?_;have qN:pI ρ ro kH:=hf.round;rcases qN with⟨rfl,rfl⟩|⟨l,l',rfl,rfl,hl⟩
   ·exact SS.dies (qo.xq (qo.stuck _))
   ·exact(SS.beginRound hl).bind λ_ _ _ _ _=>SS.pure .skip
  | @endRangeFunc l l' r=>
   dsimp only;rcases hr:(bM l).runT X.P w #[]with⟨r0,fM⟩
   cases r0 with
   |halt h wx=>
    cases h with
    |panic v=>exact BcS.of<|yo.after (yo.go _ [] wx #[] λ_=>rfl)
    |_=>exact BcS.of<|yo.after (yo.ended λ_=>⟨_,_,_,rfl⟩)
   |ok j wx=>exact BcS.of<|yo.after (yo.go _ [] wx #[] λ_=>rfl)
  | @inRegion ops td c=>
   cases td with
   |nil=>exact BcS.of<|yo.go _ [] w #[] λ_=>rfl
   |cons i td=>
    dsimp only;by_cases dQ:((ops[i]?).map (aP · (bL ops tmps))).getD false=true
    ·simp only[if_pos dQ];cases ho:ops[i]? with
     |none=>rw[ho]at dQ;cases dQ
     |some o=>
      have fu:=BN c ho;have nd:∀c,o.op≠.defer c:=λc e=>by
       unfold jL at fu;rw[e]at fu;simp at fu
      have vD:(⟨fn',tmps,.inRegion ops (i::td)::l,defers,mode,kind,ro⟩:ai).oper?=some o:=ho;have e:(λbase=>aW X.P true (⟨fn',tmps,.inRegion ops (i::td)::l,defers,mode,kind,ro⟩:ai) base none w)=
        λbase=>aN X.P true (⟨fn',tmps,.inRegion ops (i::td)::l,defers,mode,kind,ro⟩:ai) base none (ca (bw (⟨fn',tmps,.inRegion ops (i::td)::l,defers,mode,kind,ro⟩:ai)) o) w:=by
       funext base;unfold aW;rw[vD];dsimp only;split
       ·rename_i e;exact absurd e (nd _)
       ·rfl
      rw[e];exact BcS.of<|DL (up:=[]) hw hm hk (SS.execOp S.ok wr S.wrs o fu _ _ (hf.eval S))
    ·simp only[if_neg dQ];exact BcS.of<|yo.go _ [] w #[] λ_=>rfl
  | @code c hc=>
   cases c with
   |skip=>exact BcS.of<|yo.go _ [] w #[] λ_=>rfl
   |ret=>exact K8 (fr:=⟨fn',tmps,_,defers,mode,kind,ro⟩) hk (some .ret) m
   |seq x y=>exact BcS.of<|yo.go _ [] w #[] λ_=>rfl
   |cond x y z=>
    dsimp only;generalize bw _ x=v;cases v<;>first|exact BcS.of<|yo.go _ [] w #[] (λ_=>rfl)|exact BcS.of<|yo.ended λ_=>⟨_,_,_,rfl⟩
   |block id c=>exact BcS.of<|yo.go _ [] w #[] λ_=>rfl
   |loop c=>exact BcS.of<|yo.go _ [] w #[] λ_=>rfl
   |exit id=>
    dsimp only;cases aE id l with
    |none=>exact K8 (fr:=⟨fn',tmps,_,defers,mode,kind,ro⟩) hk (some (.exit id)) m
    |some k=>exact BcS.of<|yo.go _ [] w #[] λ_=>rfl
   |region id ops draw=>
    cases draw with
    |false=>exact BcS.of<|yo.go _ [] w #[] λ_=>rfl
    |true=>
     dsimp only;simp only[bN,aH,if_false];rcases hr:(choose (.order fn' id)).run X.P w with⟨t,wx⟩|⟨h,wx⟩
     ·exact BcS.of<|yo.go _ [] wx #[] λ_=>rfl
     ·exact BcS.of<|yo.ended λ_=>⟨_,_,_,rfl⟩
   |rangeFunc f params assign body=>
    simp only[codeOk,bz]at hc;obtain⟨iZ,kP,vL⟩:=hc;have hG:X.G fn':=hf.same;dsimp only;rcases hr:(bC fn' tmps params assign body ro).runT X.P w #[]with⟨r0,fM⟩
    have uy:=SS.enterLoop hG hf.tmps params (gy _ kP) (gy _ vL) hf.round;cases r0 with
    |halt h wx=>exact BcS.of<|yo.after (yo.ended λ_=>⟨_,_,_,rfl⟩)
    |ok p wx=>
     obtain⟨l1,mark⟩:=p;obtain⟨ρ1,p',fQ,gq,h1,h2,h3,h4,h5,⟨h6,nG⟩,h7⟩:=uj uy hw hr;obtain⟨wV,iP⟩:=p';dsimp only at h6 nG;have fD:=hf.mono h3.le;have uw:FR X Fb wr ρ1 ⟨fn',tmps,.inRangeFunc l1::l,mark++defers,mode,kind,ro⟩ ⟨fn',kJ,.inRangeFunc wV::l',iP++defers',pO,kind',kH⟩:=
      ⟨fD.fn,fD.same,fD.tmps,.cons (.inRangeFunc h6) (b.mono h3.le),nG.append fD.defers,fD.mode,fD.run,fD.kind,fD.kind',fD.round⟩
     exact BcS.of<|yo.after (DL (up:=[]) (fr:=⟨fn',tmps,.inRangeFunc l1::l,mark++defers,mode,kind,ro⟩) h2 hm hk (SS.iterate S.ok (λ_=>rfl) (λ_=>rfl) ((uw.eval S).1 f iZ) h6))
   |_=>simp[codeOk]at hc
theorem WZ (S:X.Set Fb wr sp) (hf:FR X Fb wr ρ fr dY) (hm:fr.mode=.returning) (m:Bool):BcS (λbase=>unwind X.P m fr base none w):=by
 by_cases hd:fr.defers=[]
 ·obtain⟨fn,tmps,todo,defers,mode,kind,ro⟩:=fr;obtain rfl:mode=.returning:=hm;obtain rfl:kind=.normal:=hf.kind;obtain rfl:defers=[]:=hd;obtain⟨f,q1,q2⟩:=hf.same;have q1:X.P.funcs[fn]?=some f:=q1;unfold unwind;dsimp only;rw[q1];dsimp only;rcases hr:(results f tmps).runT X.P w #[]with⟨r0,fM⟩
  cases r0 with
  |halt h wx=>cases h<;>exact .inl (yo.after (yo.ended λ_=>⟨_,_,_,rfl⟩))
  |ok v wx=>exact .inr ⟨v,wx,_,λc base=>rfl⟩
 ·exact .inl (Lp (up:=[]) S hf hm m (.inl hd))
theorem q6l (S:X.Set Fb wr sp) (hf:FR X Fb wr ρ fr dY) (hw:WR X ρ w w') (m:Bool):BcS (λbase=>au X.P m (G fr base) w):=by
 rcases hf.run with hm|hm
 ·have e:(λbase=>au X.P m (G fr base) w)=λbase=>am X.P m true fr base none w:=funext λbase=>yj _ _ _ _ _ hm;rw[e];exact q3n S hf hw hm m
 ·have e:(λbase=>au X.P m (G fr base) w)=λbase=>unwind X.P m fr base none w:=funext λbase=>zo _ _ _ _ _ hm;rw[e];exact WZ S hf hm m
theorem Yg {t:List Item} (h:TS k f.tmps t t') (v:aL):Aft k ((wt f t).finish v) [] ((wt f t').finish v) []:=by
 cases h with
 |op e ho hw=>exact QZ e ho v
 |code a u=>
  cases a with
  |inRegion ops td=>
   cases td with
   |nil=>exact .sw (.bot (f:=f) (.code (.inRegion ops []) u))
   |cons i td=>exact LV (u:=u) v
  |inRangeFunc l=>exact .sw (.bot (f:=f) (.code (.endRangeFunc l) u))
  |beginRound=>
   cases u with
   |nil=>exact .ld (.land (f:=f) (.inl rfl))
   |cons a u=>exact .sw (.bot (f:=f) (.code a u))
  |call d wrapper resume saved=>exact .sw (.bot (f:=f) (.code _ u))
  |code c=>exact .sw (.bot (f:=f) (.code (.code c) u))
  |inBlock id=>exact .sw (.bot (f:=f) (.code (.inBlock id) u))
  |inLoop c=>exact .sw (.bot (f:=f) (.code (.inLoop c) u))
  |inScope c=>exact .sw (.bot (f:=f) (.code (.inScope c) u))
  |endRangeFunc c=>exact .sw (.bot (f:=f) (.code (.endRangeFunc c) u))
  |_=>
   cases u with
   |nil=>exact .ld (.land (f:={f with tmps:=#[v]}) (.inl rfl))
   |cons a u=>exact .sw (.bot (f:={f with tmps:=#[v]}) (.code a u))
theorem WY {base:List ai} {t:List Item} (hf:FR X Fb wr ρ (wt f t) dY) (hm:f.mode=.returning) (m:Bool) (hd:f.defers≠[]):
  qz k base (unwind X.P m (wt f t) base none w) (unwind X.P m (wt f t') base none w):=by
 obtain⟨fn,tmps,todo,defers,mode,kind,ro⟩:=f;obtain rfl:mode=.returning:=hm;obtain rfl:kind=.normal:=hf.kind;have Un:DsR ρ defers dY.defers:=hf.defers;generalize dY.defers=ds at Un;cases Un with
 |nil=>exact absurd rfl hd
 | @cons r r' l l' a b=>
  unfold unwind wt;dsimp only;generalize (bI r).runT X.P w #[]=p0;obtain⟨r0,fM⟩:=p0;cases r0 with
  |halt h wx=>exact qz.after qz.ended
  |ok v wx=>exact qz.after (qz.ret ⟨fn,tmps,[],_,.returning,.normal,ro⟩ t t' rfl wx #[])
theorem Z8 (S:X.Set Fb wr sp) {base:List ai} {gr:ai} {gup:List ai} (yI:Sw k fr up gr gup) (hf:FR X Fb wr ρ fr dY) (hw:WR X ρ w w') (m:Bool) (hB:Bot (fr::up)) (hgo:fr.mode=.run\/fr.defers≠[]\/up≠[]):
  qz k base (au X.P m (G fr (up++base)) w) (au X.P m (G gr (gup++base)) w):=by
 have ret:∀{f:ai} {t t':List Item},f.mode=.returning->FR X Fb wr ρ (wt f t) dY->f.defers≠[]->qz k base (au X.P m (G (wt f t) base) w) (au X.P m (G (wt f t') base) w):=λ{f t t'} hm hf hd=>by
  rw[zo _ _ _ _ _ (show(wt f t).mode=.returning from hm),zo _ _ _ _ _ (show(wt f t').mode=.returning from hm)];exact WY hf hm m hd
 cases yI with
 | @ret f t t' hm=>
  refine ret hm hf ?_;rcases hgo with h|h|h
  ·rw[show(wt f t).mode=.returning from hm]at h;cases h
  ·exact h
  ·exact absurd rfl h
 | @bot f t t' h=>
  rcases hf.run with hm|hm
  ·have hm:f.mode=.run:=hm;have ny:f.roundOf=none:=hB (wt f t) (by simp);show qz k base (au X.P m (G (wt f t) base) w) (au X.P m (G (wt f t') base) w);rw[yj _ _ _ _ _ (show(wt f t).mode=.run from hm),yj _ _ _ _ _ (show(wt f t').mode=.run from hm)];exact q3o S h hf hw hm m ny
  ·have hm:f.mode=.returning:=hm;refine ret hm hf ?_;rcases hgo with h|h|h
   ·rw[show(wt f t).mode=.returning from hm]at h;cases h
   ·exact h
   ·exact absurd rfl h
 | @above _ up f t t' h=>
  rw[aU,aU];have go:∀{jk:ai} {up1:List ai} {w1:ae} {es:Array bi},(∀base,au X.P m (G fr (up++base)) w=.go (G jk (up1++base)) w1 es)->
    qz k base (au X.P m (G fr (up++([wt f t]++base))) w) (au X.P m (G fr (up++([wt f t']++base))) w):=λ{jk up1 w1 es} e=>
   .inl ⟨jk,up1++[wt f t],jk,up1++[wt f t'],w1,es,by rw[e,aU],by rw[e,aU],.sw (.above h)⟩
  by_cases hu:up=[]
  ·subst hu;rcases q6l S hf hw m with(⟨jk,up1,w1,es,e⟩|e)|⟨v,w1,es,e⟩
   ·exact go e
   ·exact .inr (e _)
   ·exact .inl ⟨_,[],_,[],w1,es,e _ _,e _ _,Yg h v⟩
  ·have hgo:yo (λbase=>au X.P m (G fr (up++base)) w):=by
    rcases hf.run with hm|hm
    ·have e:(λbase=>au X.P m (G fr (up++base)) w)=λbase=>am X.P m true fr (up++base) none w:=funext λbase=>yj _ _ _ _ _ hm;rw[e];exact Qi S hf hw hm m λ_=>hu
    ·have e:(λbase=>au X.P m (G fr (up++base)) w)=λbase=>unwind X.P m fr (up++base) none w:=funext λbase=>zo _ _ _ _ _ hm;rw[e];exact Lp S hf hm m (.inr hu)
   rcases hgo with⟨jk,up1,w1,es,e⟩|e
   ·exact go e
   ·exact .inr (e _)
end
end Sim
namespace Ph
open Go Go.Conc Go.ConcN Sim
section
variable {X:Cx} {Fb:aK->Bool} {SB:Blocks} {Q:ai->List ai->ae->Prop}
theorem q2c {wr:Bool} {sp:aK->Bool} (S:X.Set Fb wr sp) (hf:FR X Fb wr ρ fr dY) (hw:WR X ρ w w') (m:Bool) (eD:fr.roundOf.isSome->cs≠[]) (hgo:fr.mode=.run\/fr.defers≠[]\/cs≠[]):
  ShS (λw=>au X.P m (G fr cs) w) w:=by
 rcases hf.run with hm|hm
 ·have e:(λw=>au X.P m (G fr cs) w)=λw=>am X.P m true fr cs none w:=funext λw=>yj _ _ _ _ _ hm;rw[e];exact Qh S hf hw hm m eD
 ·have e:(λw=>au X.P m (G fr cs) w)=λw=>unwind X.P m fr cs none w:=funext λw=>zo _ _ _ _ _ hm;rw[e];exact Rb S hf hw hm m (hgo.resolve_left (by rw[hm];intro h;cases h))
theorem Ya (nS:X.P'=X.P) (S:X.Set Fb true (λ_=>false)) (hQ:∀fr cs w,Q fr cs w->∀ch,fr.mode≠.panicking ch) {base:List ai} {wc:ae}
  {nf:Tape->ai} {nc:Tape->List ai} {nw:Tape->ae} {ne:Tape->Array bi} (dH:∀τ:Tape,(∀i q,i<w.drawn->τ i q=w.tape i q)->au X.P true (G fr (up++[c0])) {w with tape:=τ}=.go (G (nf τ) (nc τ)) (nw τ) (ne τ))
  (hm:∀τ:Tape,(∀i q,i<w.drawn->τ i q=w.tape i q)->lH X.P Q (nf τ) (nc τ) (nw τ))
  (hf:FR X Fb true ρ fr fr) (hu:FsR X Fb true ρ up up) (hw:WN X ρ w wc) (hs:Same w wc) (hn:NB w) (hB:Bot (fr::up)):
  (fr.mode=.run\/fr.defers≠[]\/up≠[])/\∀d,∃jk up1 w1 ρ1 es,au X.P true (G fr (up++base)) (wc.at d)=.go (G jk (up1++base)) (shf wc.tape (w.drawn,d) w1) es/\
    (∃τ,(Agree w τ)/\jk=nf τ/\up1++[c0]=nc τ/\w1=nw τ)/\FR X Fb true ρ1 jk jk/\FsR X Fb true ρ1 up1 up1/\WR X ρ1 w1 (shf wc.tape (w.drawn,d) w1)/\ρ.le ρ1/\NB w1/\Bot (jk::up1)/\
    sS (rng ρ) (own X ρ) (wc.at d) (rng ρ1) (own X ρ1) (shf wc.tape (w.drawn,d) w1) es:=by
 have Oz:fr.mode=.run\/fr.defers≠[]\/up≠[]:=by
  refine aT λhgo=>?_;have mH:up=[]:=aT λh=>hgo (.inr (.inr h));subst mH;obtain⟨τ0,Uu,k0⟩:=hw;have hst:au X.P true (G fr [c0]) (re w τ0)=.go (G (nf τ0) (nc τ0)) (nw τ0) (ne τ0):=dH τ0 Uu;obtain⟨h1,h2,h3⟩:=Jb S hf k0 hn (λh=>hgo (h.imp id .inl)) hst;exact xk hQ (hm τ0 Uu) h1 h2 h3
 refine⟨Oz,λd=>?_⟩
 let τ:Tape:=λi q=>if i<w.drawn then w.tape i q else wc.tape (i-w.drawn+d) q
 have ha:Agree w τ:=λi q hi=>if_pos hi;have rz:Fit wc.tape (w.drawn,d) (re w τ):=⟨jm _,λi q hi=>by
  have eX:¬i<w.drawn:=Nat.not_lt.2 hi
  exact(if_neg eX).symm⟩
 have NA:shf wc.tape (w.drawn,d) (re w τ)=wc.at d:=by
  have h1:=hs.heap;have h2:=hs.os;have h3:=hs.output;obtain⟨hp,tp,dr,os,out⟩:=wc;simp only at h1 h2 h3;subst h1;subst h2;subst h3;simp[shf,re,World.at]
 have qL:WR X ρ (re w τ) (wc.at d):=by
  obtain⟨τ0,_,k⟩:=hw;refine⟨k.fn,k.inj,k.heap,λi q=>?_,k.sh⟩;have h1:¬w.drawn+i<w.drawn:=by omega
  have h2:w.drawn+i-w.drawn+d=d+i:=by omega
  have h3:τ (w.drawn+i) q=wc.tape (w.drawn+i-w.drawn+d) q:=if_neg h1;rw[h2]at h3;exact h3
 have hst:au X.P true (G fr (up++[c0])) (re w τ)=.go (G (nf τ) (nc τ)) (nw τ) (ne τ):=dH τ ha;by_cases hgo:fr.mode=.run\/fr.defers≠[]\/up≠[]
 ·rcases P5 S hf qL true hB hgo with⟨jk,up1,w1,es,yT⟩|yT
  ·have e1:au X.P true (G fr (up++[c0])) (re w τ)=_:=yT [c0];rw[hst]at e1;have e2:au X.P true (G fr (up++base)) (re w τ)=_:=yT base;have eD:fr.roundOf.isSome->up++base≠[]:=λh=>by
    have mH:up≠[]:=λhu=>by
     subst hu;rw[hB fr (by simp)]at h;cases h
    simp[mH]
   have Ol:fr.mode=.run\/fr.defers≠[]\/up++base≠[]:=hgo.imp id (λh=>h.imp id λh=>by simp[h]);obtain⟨e3,jdn⟩:=q2c S (cs:=up++base) hf qL true eD Ol _ _ _ e2 wc.tape (w.drawn,d) rz;rw[NA]at e3;have e3:au X.P true (G fr (up++base)) (wc.at d)=_:=e3;have out:=IG S (base:=base) (base':=base) hf hu qL hn hB hgo true true;rw[nS,e3,e2]at out;generalize hg:GStep.go (G jk (up1++base)) w1 es=s at out;cases out with
   | @nice f1 Nz u1 Kj ρ1 x1 Kh gq Mg e h1 h2 h3 h4 h5 h6 h7 h8=>
    have nR:jk=f1/\up1++base=u1++base/\w1=x1:=by
     injection hg with a b c;injection a with a1 a2;exact⟨a1,a2,b⟩
    obtain⟨rfl,qM,rfl⟩:=nR;obtain rfl:=aA qM;have Nf:jk=Nz/\up1++base=Kj++base/\shf wc.tape (w.drawn,d) w1=Kh/\es=Mg:=by
     injection e with a b c;injection a with a1 a2;exact⟨a1,a2,b,c⟩
    obtain⟨rfl,BZ,rfl,rfl⟩:=Nf;obtain rfl:=aA BZ;have qY:nf τ=jk/\nc τ=up1++[c0]/\nw τ=w1:=by
     injection e1 with a b c;injection a with a1 a2;exact⟨a1,a2,b⟩
    exact⟨jk,up1,w1,ρ1,es,e3,⟨τ,ha,qY.1.symm,qY.2.1.symm,qY.2.2.symm⟩,h1,h2,h3,h4.le,h7,h8,FI qL h4 h3 h6⟩
   |special k1 k2=>cases k2
   | @panic f1 u1 ch x1 gq h1 h2=>
    exfalso;have nR:jk={f1 with mode:=.panicking ch}/\up1++base=u1++base/\w1=x1:=by
     injection hg with a b c;injection a with a1 a2;exact⟨a1,a2,b⟩
    obtain⟨rfl,qM,rfl⟩:=nR;obtain rfl:=aA qM;have qY:nf τ={f1 with mode:=.panicking ch}/\nc τ=up1++[c0]/\nw τ=w1:=by
     injection e1 with a b c;injection a with a1 a2;exact⟨a1,a2,b⟩
    have yP:=hm τ ha;rw[qY.1,qY.2.1,qY.2.2]at yP;exact xk hQ yP trivial ⟨_,rfl⟩ (.inl ⟨_,rfl,h1,h2⟩)
   |ended=>cases hg
  ·exact absurd hst (yT _ _ _ _)
 ·exfalso;have mH:up=[]:=aT λh=>hgo (.inr (.inr h));subst mH;obtain⟨h1,h2,h3⟩:=Jb S hf qL hn (λh=>hgo (h.imp id .inl)) hst;exact xk hQ (hm τ ha) h1 h2 h3
inductive BD (n:Nat):List Item->Prop
 |a (r:List Item):BD n (.code (.block n .skip)::.inLoop (.block n .skip)::r)
 |b (r:List Item):BD n (.code .skip::.inBlock n::.inLoop (.block n .skip)::r)
 |c (r:List Item):BD n (.inBlock n::.inLoop (.block n .skip)::r)
 |d (r:List Item):BD n (.inLoop (.block n .skip)::r)
def xW (k:List Item) (Q:ai->List ai->ae->Prop):Prop:= ∀fr cs w,Q fr cs w->cs=[c0]/\(fr.mode=.returning\/(fr.mode=.run/\∃k',fr.todo=st k'/\(k'=k\/∃id,aE id k=some k')))
theorem xW.mode (h:xW k Q):∀fr cs w,Q fr cs w->∀ch,fr.mode≠.panicking ch:=λfr cs w hq ch e=>by
 rcases(h _ _ _ hq).2 with h|⟨h,_⟩<;>rw[e]at h<;>cases h
theorem XH (hQ:xW k Q):∀{fr:ai} {cs:List ai} {w:ae},lH X.P Q fr cs w->fr.mode=.run->BD n fr.todo->False:=by
 intro fr cs w h;induction h with
 | @done fr cs w hq=>
  intro hm hl;rcases(hQ _ _ _ hq).2 with h|⟨_,k',h,_⟩
  ·rw[hm]at h;cases h
  ·rw[h,tY]at hl;cases hl
 | @step fr cs w nf nc nw ne hs _ ih=>
  intro hm hl;have h1:au X.P true (G fr cs) w=.go (G (nf w.tape) (nc w.tape)) (nw w.tape) (ne w.tape):=hs w.tape (λ_ _ _=>rfl);rw[yj _ _ _ _ _ hm]at h1;have fin:∀{t:List Item},am X.P true true fr cs none w=.go (G (wt fr t) cs) w #[]->BD n t->False:=λ{t} e uq=>by
   rw[e]at h1;injection h1 with h1 _ _;injection h1 with h1 _;refine ih w.tape (λ_ _ _=>rfl) ?_ ?_
   ·rw[<-h1];exact hm
   ·rw[<-h1];exact uq
  obtain⟨fn,tmps,todo,defers,mode,kind,ro⟩:=fr;change BD n todo at hl;cases hl with
  |a r=>exact fin rfl (.b r)
  |b r=>exact fin rfl (.c r)
  |c r=>exact fin rfl (.d r)
  |d r=>exact fin rfl (.a r)
theorem QT (hQ:xW k Q) {k':List Item} (h:lH X.P Q (wt f (st k')) cs w) (hm:f.mode=.run):Q (wt f (st k')) cs w:=by
 generalize jJ:wt f (st k')=fr at h;cases h with
 |done hq=>exact hq
 |step nf nc nw ne hs hn=>
  exfalso;have h1:au X.P true (G fr cs) w=.go (G (nf w.tape) (nc w.tape)) (nw w.tape) (ne w.tape):=hs w.tape (λ_ _ _=>rfl);subst jJ;rw[yj _ _ _ _ _ (show(wt f (st k')).mode=.run from hm),tY]at h1;have e:am X.P true true (wt f (stop k'.length::sf k')) cs none w=.go (G (wt f (.code (.block k'.length .skip)::.inLoop (.block k'.length .skip)::sf k')) cs) w #[]:=rfl;rw[e]at h1;injection h1 with h1 _ _;injection h1 with h1 _;refine XH hQ (n:=k'.length) (hn w.tape (λ_ _ _=>rfl)) ?_ ?_
  ·rw[<-h1];exact hm
  ·rw[<-h1];exact .a _
theorem WT (hQ:xW k Q) (h:lH X.P Q (wt f (.inRegion #[o] []::st k)) cs w) (hm:f.mode=.run):Q (wt f (st k)) cs w:=by
 generalize jJ:wt f (.inRegion #[o] []::st k)=fr at h;cases h with
 |done hq=>
  exfalso;subst jJ;rcases(hQ _ _ _ hq).2 with h|⟨_,k',h,_⟩
  ·have h:f.mode=.returning:=h;rw[hm]at h;cases h
  ·have h:Item.inRegion #[o] []::st k=st k':=h;rw[tY k']at h;injection h with h _;cases h
 |step nf nc nw ne hs hn=>
  have h1:au X.P true (G fr cs) w=.go (G (nf w.tape) (nc w.tape)) (nw w.tape) (ne w.tape):=hs w.tape (λ_ _ _=>rfl);subst jJ;rw[yj _ _ _ _ _ (show(wt f (.inRegion #[o] []::st k)).mode=.run from hm)]at h1;have e:am X.P true true (wt f (.inRegion #[o] []::st k)) cs none w=.go (G (wt f (st k)) cs) w #[]:=rfl;rw[e]at h1;injection h1 with h1 h2 _;injection h1 with h1 h3;have:=hn w.tape (λ_ _ _=>rfl);rw[<-h1,<-h2,<-h3]at this;exact QT hQ this hm
end
section
variable {X:Cx} {Fb:aK->Bool} {SB:Blocks} {Q:ai->List ai->ae->Prop}
inductive Way (k:List Item):ai->ai->Prop
 |land {f:ai} {k':List Item}:f.mode=.run->(k'=k\/∃id,aE id k=some k')->Way k (wt f (st k')) (wt f k')
 |ret {f:ai} {t t':List Item}:f.mode=.returning->Way k (wt f t) (wt f t')
theorem Wt {k':List Item} (h:k'=k\/∃id,aE id k=some k'):(st k').length<=(st k).length:=by
 rcases h with rfl|⟨id,h⟩
 ·exact jm _
 ·have:∀k,aE id k=some k'->(st k').length<=(sf k).length:=by
   intro k;induction k with
   |nil=>intro h;cases h
   |cons a k ih=>
    cases a with
    |inBlock Ag=>
     intro h;have e:aE id (.inBlock Ag::k)=if Ag==id then some k else aE id k:=rfl
     rw[e]at h;rw[sf];split at h
     ·cases h;simp
     ·have:=ih h;rw[tY k];simp;omega
    |_=>
     intro h;rw[sf]
     ·exact ih h
     ·intro _ e;cases e
  have:=this k h;rw[tY k];simp;omega
theorem xW.out (hQ:xW k Q) {gr:ai} {gup:List ai} (yI:Sw k fr up gr gup) (hq:Q fr (up++[c0]) w):up=[]/\gup=[]/\Way k fr gr:=by
 obtain⟨hc,ho⟩:=hQ _ _ _ hq;cases yI with
 |ret hm=>exact⟨rfl,rfl,.ret hm⟩
 | @above up f t t' h=>
  have:=congrArg cr hc;simp at this
 | @bot f t t' h=>
  rcases ho with ho|⟨hm,k',ho,pY⟩
  ·exact⟨rfl,rfl,.ret ho⟩
  ·exfalso;have ho:t=st k':=ho;cases h with
   |code a u=>
    have h1:=congrArg cr ho;have h2:=Wt pY;simp at h1;omega
   |op _ _ _=>
    rw[tY k']at ho;injection ho with h _;cases h
theorem KI (hf:FR X Fb true ρ fr fr):FR X Fb true ρ (wt fr []) (wt fr []):=⟨hf.fn,hf.same,hf.tmps,.nil,hf.defers,hf.mode,hf.run,hf.kind,hf.kind',hf.round⟩
theorem WR.self {Fb:aK->Bool} {sp:aK->Bool} (S:X.Set Fb true sp) {wc:ae} (hw:WN X ρ w wc) (hs:Same w wc) (d:Nat):WR X ρ (wc.at d) (wc.at d):=by
 obtain⟨τ0,_,k0⟩:=hw;refine⟨k0.fn,k0.inj,λ{a b} gB=>?_,λ_ _=>rfl,λa ha=>absurd ha (S.wrs rfl a)⟩;obtain⟨o,o',k1,k2,k3⟩:=k0.heap gB;exact⟨o,o',by show wc.heap[a]?=_;rw[hs.heap];exact k1,k2,k3⟩
def Qq (X:Cx) (Fb:aK->Bool) (SB:Blocks) (k:List Item) (Q:ai->List ai->ae->Prop) (ρ:Rel) (gs:Array aa) (base:List ai) (wc:ae) (sl:Option (Nat×Nat)) (t:aB):Prop:=
 ∃(N:Nat) (eH:Array aa) (gV Az:ai) (w2 lV:ae) (sl':Option (Nat×Nat)) (t':aB) (q':Nat->Nat) (ρ2:Rel),
    runNT X.P N (crowd gs wc sl) t=(.next (crowd eH lV sl'),t')/\Q gV [c0] w2/\Way k gV Az/\eH.size=gs.size/\eH[0]?=some (G Az base)/\Same w2 lV/\FR X Fb true ρ2 (wt gV []) (wt gV [])/\WN X ρ2 w2 lV/\ρ.le ρ2/\NB w2/\
     bk X.P t' eH q'/\vz SB lV eH.size t'/\sU SB (rng ρ2) (own X ρ2) lV
theorem Yv (nS:X.P'=X.P) (S:X.Set Fb true (λ_=>false)) (hQ:xW k Q):∀{fr:ai} {cs:List ai} {w:ae},lH X.P Q fr cs w->
  ∀{ρ:Rel} {gr:ai} {up gup base:List ai} {gs:Array aa} {wc:ae} {sl:Option (Nat×Nat)} {t:aB} {q:Nat->Nat},cs=up++[c0]->Sw k fr up gr gup->FR X Fb true ρ fr fr->FsR X Fb true ρ up up->WN X ρ w wc->Same w wc->NB w->Bot (fr::up)->
   gs[0]?=some (G gr (gup++base))->bk X.P t gs q->vz SB wc gs.size t->sU SB (rng ρ) (own X ρ) wc->
   Qq X Fb SB k Q ρ gs base wc sl t:=by
 intro fr cs w h;induction h with
 | @done fr cs w hq=>
  rintro ρ gr up gup base gs wc sl t q rfl yI hf hu hw hs hn hB h0 hL hP hF;obtain⟨rfl,rfl,ho⟩:=hQ.out yI hq;exact⟨0,gs,fr,gr,w,wc,sl,t,q,ρ,rfl,hq,ho,rfl,h0,hs,KI hf,hw,ρ.le_refl,hn,hL,hP,hF⟩
 | @step fr cs w nf nc nw ne dH hm ih=>
  rintro ρ gr up gup base gs wc sl t q rfl yI hf hu hw hs hn hB h0 hL hP hF;obtain⟨hgo,key⟩:=Ya nS S hQ.mode dH hm hf hu hw hs hn hB;have GU:∀d,∃jk up1 si pF w1 ρ1 es,au X.P true (G gr (gup++base)) (wc.at d)=.go (G si (pF++base)) (shf wc.tape (w.drawn,d) w1) es/\Aft k jk up1 si pF/\
    (∃τ,(Agree w τ)/\jk=nf τ/\up1++[c0]=nc τ/\w1=nw τ)/\FR X Fb true ρ1 jk jk/\FsR X Fb true ρ1 up1 up1/\WR X ρ1 w1 (shf wc.tape (w.drawn,d) w1)/\ρ.le ρ1/\NB w1/\Bot (jk::up1)/\
    sS (rng ρ) (own X ρ) (wc.at d) (rng ρ1) (own X ρ1) (shf wc.tape (w.drawn,d) w1) es:=λd=>by
   obtain⟨jk,up1,w1,ρ1,es,e,hτ,h1,h2,h3,hle,h7,h8,ok⟩:=key d;have hwz:=WR.self S hw hs d;rcases Z8 S (base:=base) yI hf hwz true hB hgo with⟨gV,xL,Az,OQ,w2,oU,e1,e2,ha⟩|fq
   ·rw[e]at e1;injection e1 with a1 a2 a3;injection a1 with a1 a4;obtain rfl:=a1;obtain rfl:=aA a4;obtain rfl:=a2;obtain rfl:=a3;exact⟨jk,up1,Az,OQ,w1,ρ1,es,e2,ha,hτ,h1,h2,h3,hle,h7,h8,ok⟩
   ·exact absurd e (fq _ _ _)
  have jE:0<gs.size:=(yc h0).1;obtain⟨N,jV,a1,d,Ki,es,iN,t1,q1,hr,TL,hz,nI,tC,tu,_⟩:=BS (P:=X.P) (SB:=SB) (sl:=sl) h0 rfl hL hP λd=>by
   obtain⟨jk,up1,si,pF,w1,ρ1,es,e,_,_,_,_,_,_,_,_,ok⟩:=GU d;have Cq:sU SB (rng ρ) (own X ρ) (wc.at d):=⟨hF.apart,hF.low,hF.own,hF.foot⟩
   have jK:=Cq.step ok;exact⟨_,_,es,e,ok.size,λx hx=>⟨Il (ok.ev x hx) jK.apart jK.foot,λy hy=>(KT (ok.ev x hx) hy).1⟩⟩
  obtain⟨jk,up1,si,pF,w1,ρ1,gP,e,ha,⟨τ,Ut,rfl,DW,rfl⟩,h1,h2,h3,hle,h7,h8,ok⟩:=GU d;rw[e]at TL;have nR:G si (pF++base)=a1/\shf wc.tape (w.drawn,d) (nw τ)=Ki/\gP=es:=by
   injection TL with a b c;exact⟨a,b,c⟩
  obtain⟨rfl,rfl,rfl⟩:=nR;have Cq:sU SB (rng ρ) (own X ρ) (wc.at d):=⟨hF.apart,hF.low,hF.own,hF.foot⟩
  have xC:=Cq.step ok;have jW:Same (nw τ) (shf wc.tape (w.drawn,d) (nw τ)):=⟨rfl,rfl,rfl⟩
  have fin:∀{si:ai} {pF:List ai},jV[0]?=some (G si (pF++base))->Sw k (nf τ) up1 si pF->Qq X Fb SB k Q ρ gs base wc sl t:=λ{si pF} nI iR=>by
   obtain⟨N',eH,gV,Az,w2,lV,sl',t',q',ρ2,fO,hq,ho,yG,rZ,l6,g1,g3,g4,g5,rV,nT,jK⟩:=ih τ Ut (sl:=iN) DW.symm iR h1 h2 (WN.of h3) jW h7 h8 nI tC tu xC;exact⟨N+N',eH,gV,Az,w2,lV,sl',t',q',ρ2,runNT_trans _ hr fO,hq,ho,yG.trans hz,rZ,l6,g1,g3,Rel.le_trans hle g4,g5,rV,nT,jK⟩
  have yP:=hm τ Ut;rw[<-DW]at yP;generalize nf τ=jk at*;cases ha with
  |sw iR=>exact fin nI iR
  |panic hp=>rcases h1.run with h|h<;>rw[hp]at h<;>cases h
  |ld hl=>
   cases hl with
   | @land f k' pY=>
    rcases h1.run with yQ|yQ
    ·have hq:=QT hQ yP yQ;exact⟨N,jV,wt f (st k'),wt f k',nw τ,_,iN,t1,q1,ρ1,hr,(by have:=(hQ _ _ _ hq).1;rw[this]at hq;exact hq),.land yQ pY,hz,nI,jW,KI h1,WN.of h3,hle,h7,tC,tu,xC⟩
    ·exact fin (pF:=[]) nI (.ret (f:=f) yQ)
   | @late f o=>
    rcases h1.run with yQ|yQ
    ·have hq:=WT hQ yP yQ;exact⟨N,jV,wt f (st k),wt f k,nw τ,_,iN,t1,q1,ρ1,hr,(by have:=(hQ _ _ _ hq).1;rw[this]at hq;exact hq),.land yQ (.inl rfl),hz,nI,jW,(show FR X Fb true ρ1 (wt f []) (wt f [])from KI (fr:=wt f (.inRegion #[o] []::st k)) h1),WN.of h3,hle,h7,tC,tu,xC⟩
    ·exact fin (pF:=[]) nI (.ret (f:=f) yQ)
end
end Ph
end Go.Proofs.Ytkpekiajdlolnaa
