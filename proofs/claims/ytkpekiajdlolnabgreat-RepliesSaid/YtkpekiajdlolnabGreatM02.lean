/- PROVED: part 2 of the claim's ground. Conditions: those that each theorem names. -/
import Derived.Test.YtkpekiajdlolnabGreatM01
import Derived.Conc.WgGenN3
import Derived.Conc.CrowdStepW
import Derived.Conc.CrowdStepC2
import Derived.Test.YtkpekiajdlolnabGreatChecked
import Derived.Conc.DeferLaws
import Derived.Conc.CompanyDraw
import Derived.Conc.Own3
set_option linter.unusedVariables false
set_option linter.unusedSimpArgs false
set_option maxRecDepth 100000
set_option maxHeartbeats 16000000
open _root_ renaming rfl→lc,Nat→bn,List→dw,Array→eD,False→fo,absurd→gF,Option→gI,Bool→gJ,congrArg→gU,Int→gY,if_neg→iO,String→jb,if_true→je,if_pos→jC
variable{A:Go.Goroutine->Go.World->Prop} {B Wg i j n r:bn} {Q:Go.Exit->Go.Act->Go.World->Prop} {a:Go.Addr} {a' g g':Go.Goroutine} {b f fr fD gr:Go.Frame} {cs up:dw Go.Frame} {e:Go.Event} {es:eD Go.Event} {fn:Go.FuncId} {gs:eD Go.Goroutine} {k k' l t':dw Go.Item} {o:Go.Oper} {ops:eD Go.Oper} {q:bn->bn} {sl:gI (bn×bn)} {t:Go.Trace} {td:dw bn} {w w' w1:Go.World} {ρ:Go.Proofs.YtkpekiajdlolnabGreat.Sim.Rel}
open Go.Proofs.Tryz
open Go renaming Goroutine→aa,undef→ae,World→ah,Frame→aj,Program→ax,deafBehind→az,stepG→aB,Trace→aC,Value→aG,execOp→aJ,FuncId→aL,exitTo→aM,TypeId→aQ,HappensBefore→bE,yielded→bF,Event→bG,mem_ready→bP,getD_set_ne→bZ,setCell_eq_setRow→cx
open Go.Conc renaming stepG_region_end→ac,stepG_seq→ai,mem_ofEvents→am,stepG_skip→aO,aside_setCell→aP,getElem?_append_cases→aU,stepG_ret'→aX,Leavers→bi,runT_crowd_go→bp,Deaf_other→bB,woken_quitsD→bH,stepG_load_atomic→bK,touch_of→bV,ofEvent_cell0→cn
open Go.MemAct renaming ofEvent→al,touch?→aR
open Go.ConcN renaming upd_same→ao,upd_ne→aA,get_map_set→bk,WgLive→bz,get_map_set_same→bC,PayAt→cj
open Option renaming map_eq_some_iff→aq,getD_some→bL,map_some→bR
open Nat renaming not_lt_zero→au,eq_zero_or_pos→aS,reduceAdd→bw,lt_irrefl→cg,le_of_lt→cu,lt_or_ge→cy,le_of_not_lt→cC
open Go.MemOp renaming ofEvents→aw
open Go.Region renaming ready→ay,wanted→aE
open Go.Conc.Goes renaming cases→aD,stop→aK,step→cB
open Go.Region.linearise renaming go→aF
open Go.stepG renaming exec→aH,oper→bQ,apply→bY
open Option.some renaming injEq→aI
open Array renaming getElem?_eq_getElem→aN,mem_of_getElem?→aV,getElem?_push_lt→bA,getElem?_map→bI,mem_append→bO
open Prod.Lex renaming right→aT,left→bj
open List renaming append_assoc→aW,append_cancel_right→aY,mem_toArray→aZ,mem_singleton→bh,length→bX,all_eq_true→cF,mem_range→cM,mem_cons→cN,range→dk
open Go.Act renaming mk→bg
open Go.ConcN.RW renaming refl→bm
open Go.CallKind renaming wrapped→bD,early→cK
open Go.Trace renaming g?→bN
open Ne renaming symm→ce
open Bool renaming true→η,false→θ
open Option renaming none→ε,some→ζ
open Go.Value renaming pointer→ξ,tuple→ο,int→σ,bool→χ
open Go.Item renaming inRegion→π
open Go.IntKind renaming i64→υ
open Or renaming inl→ι,inr→κ
open Decidable renaming decide→ν
namespace Go.Proofs.YtkpekiajdlolnabGreat
namespace Ph
section
open Go Go.Conc Go.ConcN Go.RowKit Go.Conc.Lib Go.ConcR.Gen Go.ConcN.Gen Sim
open Go.ConcR (KK wgBlock WgAt stA smA rd wr mk DC0)
section
variable {L:WgLink}
structure RM (ty:aQ) (Wg:bn) (F:Blocks) (w w1:ah):Prop where
 ext:Ext F w w1
 live:bz ty Wg w->bz ty Wg w1
theorem qa {ty:aQ} {F:Blocks} (h:bz ty Wg w) (r:RM ty Wg F w w1):bz ty Wg w1:=r.live h
theorem uh {ty:aQ} {F:Blocks} (a b c:ah) (h:RM ty Wg F a b) (k:RM ty Wg F b c):RM ty Wg F a c:=⟨h.ext.trans k.ext,k.live∘h.live⟩
section
variable (P:ax) (ty:aQ) (Wg:bn) (F:Blocks)
def MG (Stop:aa->ah->Prop) (g:aa) (w:ah):Prop:= ∃m,Goes P η (RM ty Wg F) DC0 Stop m g w
def jT (m:Mark) (K:aa->ah->Prop) (g:aa) (w:ah):Prop:=
 g.status=.running/\∃g',aB P η g w=.go g' w #[mk m]/\K g' w
def yD (K:aa->ah->Prop) (g:aa) (w:ah):Prop:=
 g.status=.running/\∀v:bn,v<2147483647->WgAt ty Wg w (v*KK) 0->
  ∃g',aB P η g w=.go g' (w.setCell (stA Wg) (.int .u64 ((v+1)*KK))) #[rd (stA Wg),wr (stA Wg)]/\
   ((v=0/\MG P ty Wg F (jT P (.read (smA Wg)) (MG P ty Wg F (jT P .enable K))) g' (w.setCell (stA Wg) (.int .u64 ((v+1)*KK))))\/
    (v≠0/\MG P ty Wg F (jT P .enable K) g' (w.setCell (stA Wg) (.int .u64 ((v+1)*KK)))))
end
section
variable (P:ax) (ty:aQ) (Wg:bn) (F:Blocks)
def Em (K:aa->ah->Prop):aa->ah->Prop:=MG P ty Wg F (jT P .enable (MG P ty Wg F (jT P (.acquire (stA Wg)) K)))
def En (K:aa->ah->Prop) (g:aa) (w:ah):Prop:=
 g.status=.running/\(WgAt ty Wg w 0 0->∃g',aB P η g w=.go g' w #[rd (stA Wg)]/\Em P ty Wg F K g' w)
def zV (K:aa->ah->Prop) (g:aa) (w:ah):Prop:=
 g.status=.running/\g.offers=ε/\((∃st,WgAt ty Wg w st 0)->aB P η g w=.go {g with status:=.blocked} w #[])/\
  (WgAt ty Wg w 0 1->∃g',aB P η g w=.go g' (w.setCell (smA Wg) (.int .u32 0)) (semEvents (smA Wg))/\MG P ty Wg F (En P ty Wg F K) g' (w.setCell (smA Wg) (.int .u32 0)))
def Eo (A:aa->ah->Prop) (K:aa->ah->Prop) (vs:bn) (g:aa) (w:ah):Prop:=
 g.status=.running/\∀v:bn,v<2147483648->WgAt ty Wg w (v*KK) 0->
  (v=vs->∃g',aB P η g w=.go g' (w.setCell (stA Wg) (.int .u64 (v*KK+1))) #[rd (stA Wg),wr (stA Wg)]/\MG P ty Wg F (jT P (.write (smA Wg)) (MG P ty Wg F (zV P ty Wg F K))) g' (w.setCell (stA Wg) (.int .u64 (v*KK+1))))/\
  (v≠vs->∃g',aB P η g w=.go g' w #[rd (stA Wg)]/\MG P ty Wg F A g' w)
def sZ (A:aa->ah->Prop) (K:aa->ah->Prop) (g:aa) (w:ah):Prop:=
 g.status=.running/\∀v:bn,v<2147483648->WgAt ty Wg w (v*KK) 0->∃g',aB P η g w=.go g' w #[rd (stA Wg)]/\
  (v=0->Em P ty Wg F K g' w)/\(v≠0->MG P ty Wg F (Eo P ty Wg F A K v) g' w)
end
def Anch (L:WgLink) (Wg:bn) (c:aj) (cs:dw aj) (g:aa) (w:ah):Prop:=
 ∃T:eD aG,g=G ((base L.wait).at ⟨T,[]⟩ [.code (L7 L),.inLoop (L7 L),.inBlock 0]) (c::cs)/\T.size=84/\T[0]?=ζ (ξ (ζ ⟨Wg,0,ε⟩))/\bz L.tWg Wg w
section
variable {P:ax} {Wg:bn} {F:Blocks} {b₀:aj} {a₀:Act} {ops₀:eD Oper} {i₀:bn} {rest₀:dw bn} {k₀:dw Item} {cs:dw aj}
theorem add1 (H:WgLib P L) {K:aa->ah->Prop} {mT:bn}
  (N:∀w,bz L.tWg Wg w->Goes P η (RM L.tWg Wg F) DC0 K mT (G (b₀.at (a₀.put ((ops₀[i₀]?).bind (·.dst)) (ο #[])) (π ops₀ rest₀::k₀)) cs) w)
  (w:ah) (hF:bz L.tWg Wg w):
  MG P L.tWg Wg F (jT P .disable (MG P L.tWg Wg F (yD P L.tWg Wg F (MG P L.tWg Wg F K))))
   (G ((base L.add).at ⟨#[ξ (ζ ⟨Wg,0,ε⟩),σ υ 1,ae,ae,ae,ae,ae,ae,ae,ae,ae,ae,ae,ae,ae,ae,ae,ae,ae,ae,ae,ae,ae,ae,ae,ae,ae,ae,ae,ae,ae,ae,ae,ae,ae,ae,ae,ae,ae,ae,ae,ae,ae,ae,ae,ae,ae,ae,ae,ae,ae,ae,ae,ae,ae,ae,ae,ae,ae,ae,ae,ae,ae,ae,ae,ae,ae,ae,ae,ae,ae,ae,ae,ae,ae,ae,ae,ae,ae,ae,ae,ae,ae,ae,ae,ae,ae,ae,ae,ae,ae,ae,ae,ae,ae,ae,ae,ae,ae,ae,ae,ae,ae,ae,ae,ae,ae,ae,ae,ae,ae,ae,ae,ae,ae,ae,ae],[]⟩ [.code (body_add L)]) (b₀.at a₀ (π ops₀ (i₀::rest₀)::k₀)::cs)) w:=by
 lib_facts
 simp only[body_add,addFn,bL];refine⟨40,?_⟩
 u_c ai qa hF
 u_cond η qa hF
 u_c ai qa hF
 u_c ai qa hF
 u_reg qa hF
 u_op qa hF
 u_op qa hF
 u_c ac qa hF
 u_cond θ qa hF
 u_c aO qa hF
 u_c ai qa hF
 u_reg qa hF
 refine aK (λw1 I=>?_);replace hF:=qa hF I;clear I;refine⟨lc,_,stepG_mark0 .disable (by simp) lc lc (by k_ne) lc H.f_disable (x_disable_n L) (x_disable_b L) (x_disable_x L) (x_disable_f L),60,?_⟩
 walk_nrm
 u_c ac qa hF
 u_reg qa hF
 u_defer qa hF
 u_c ac qa hF
 u_c ai qa hF
 u_reg qa hF
 u_op qa hF
 u_c ac qa hF
 u_c ai qa hF
 u_c ai qa hF
 u_reg qa hF
 u_bub qa hF
 u_c ac qa hF
 u_cond θ qa hF
 u_c aO qa hF
 u_c ai qa hF
 u_reg qa hF
 u_op qa hF
 u_op qa hF
 u_op qa hF
 u_op qa hF
 u_op qa hF
 u_op qa hF
 u_call H.f_uAdd (nm_uAdd L) uAddFn qa hF
 u_c ai qa hF
 u_reg qa hF
 u_op qa hF
 u_c ac qa hF
 u_c ai qa hF
 u_reg qa hF
 u_op qa hF
 u_op qa hF
 u_op qa hF
 u_op qa hF
 refine aK (λx J=>?_);replace hF:=qa hF J;clear J;refine⟨lc,λv hv c=>?_⟩;rcases aS v with rfl|hvp
 .replace c:WgAt L.tWg Wg x 0 0:=by simpa using c
  have z:(((0:bn):gY)+1)*KK=KK:=by simp
  rw[z];have R:IntKind.u64.wrap (0+4294967296)=KK:=by decide
  refine⟨_,(stepG_add_atomic lc lc (by k_ne) lc H.f_addU64 (x_addU64_n L) (x_addU64_b L) (x_addU64_x L) .u64 (x_addU64_f L) lc lc c.cellSt (c.thaw 0)).trans (by rw[R];rfl),ι ⟨lc,120,?_⟩⟩;replace hF:bz L.tWg Wg (x.setCell (stA Wg) (.int .u64 KK)):=⟨_,_,c.setSt _⟩
  clear c;simp only[KK]at hF|-
  walk_nrm
  u_op qa hF
  u_c ac qa hF
  u_c aX qa hF
  u_leave1 H.f_uAdd qa hF
  u_op qa hF
  u_c ac qa hF
  u_c ai qa hF
  u_c ai qa hF
  u_reg qa hF
  u_op qa hF
  u_op qa hF
  u_op qa hF
  u_op qa hF
  u_skip qa hF
  u_skip qa hF
  u_op qa hF
  u_c ac qa hF
  u_cond θ qa hF
  u_c aO qa hF
  u_c ai qa hF
  u_reg qa hF
  u_op qa hF
  u_op qa hF
  u_op qa hF
  u_op qa hF
  u_c ac qa hF
  u_c ai qa hF
  u_reg qa hF
  u_op qa hF
  u_op qa hF
  u_op qa hF
  u_op qa hF
  u_c ac qa hF
  u_c ai qa hF
  u_c ai qa hF
  u_reg qa hF
  u_op qa hF
  u_op qa hF
  u_op qa hF
  u_op qa hF
  u_op qa hF
  u_op qa hF
  u_op qa hF
  u_op qa hF
  u_op qa hF
  u_op qa hF
  u_c ac qa hF
  u_cond η qa hF
  u_reg qa hF
  u_op qa hF
  u_op qa hF
  u_op qa hF
  u_conv H.underlying_tPU32 H.room_tU32 (WgLive.cell1 hF).choose_spec qa hF
  refine aK (λw3 M=>?_);replace hF:=qa hF M;clear M;refine⟨lc,_,stepG_markAt .read (by simp) lc lc (by k_ne) lc H.f_raceRead (x_raceRead_n L) (x_raceRead_b L) (x_raceRead_x L) (x_raceRead_f L) (ad:=⟨Wg,1,ε⟩) (by simp[Act.eval]),120,?_⟩
  walk_nrm
  u_c ac qa hF
  u_c ai qa hF
  u_c ai qa hF
  u_reg qa hF
  u_op qa hF
  u_op qa hF
  u_c ac qa hF
  u_cond θ qa hF
  u_c aO qa hF
  u_c ai qa hF
  u_c ai qa hF
  u_reg qa hF
  u_op qa hF
  u_op qa hF
  u_op qa hF
  u_skip qa hF
  u_skip qa hF
  u_op qa hF
  u_op qa hF
  u_skip qa hF
  u_skip qa hF
  u_skip qa hF
  u_skip qa hF
  u_op qa hF
  u_c ac qa hF
  u_cond θ qa hF
  u_c aO qa hF
  u_c ai qa hF
  u_c ai qa hF
  u_reg qa hF
  u_op qa hF
  u_op qa hF
  u_op qa hF
  u_skip qa hF
  u_skip qa hF
  u_op qa hF
  u_c ac qa hF
  u_cond η qa hF
  u_c aX qa hF
  refine aK (λy h=>?_);replace hF:=qa hF h;clear h;refine⟨lc,_,stepG_unwind_entry (v:=ο #[]) (evs:=#[mk .enable]) lc H.f_enable (x_enable_n L) (x_enable_b L) (x_enable_x L) (x_enable_f L) (by simp[Extern.Race.none_]) (by simp[mk]) (by simp[mk]),?_⟩;refine⟨mT+1,?_⟩;exact cB lc (λy h=>by
   refine goes_leave0 lc lc H.f_add lc ⟨by u_nil,?_⟩
   exact N _ (qa hF h))
 .obtain⟨V,p⟩:∃V:gY,V=(v:gY)+1:=⟨_,lc⟩
  obtain⟨S,m⟩:∃S:gY,S=V*KK:=⟨_,lc⟩
  have E:IntKind.u64.wrap ((v:gY)*KK+4294967296)=S:=by rw[IntKind.wrap_u64,m,p];simp only[KK];omega
  rw[<-p,<-m];have Y:S/4294967296=V:=by rw[m];simp only[KK];omega
  have Z:bits .and .u64 S 2147483648=0:=by rw[m,p];have:=st_flag (v+1) 0 (by omega) (by omega);simpa[KK]using this
  have b2:bits .and .u64 S 2147483647=0:=by rw[m,p];have:=st_waiters (v+1) 0 (by omega) (by omega);simpa[KK]using this
  have c1:IntKind.i32.wrap V=V:=by rw[IntKind.wrap_i32];omega
  have U:1<V:=by omega
  have W:V<2147483648:=by omega
  have q1:(V==1)=θ:=by simp;omega
  have q2:ν (V=1)=θ:=xdf (by omega);have q3:ν (V<0)=θ:=xdf (by omega);have q4:ν (0<V)=η:=xdt (by omega);have q5:(V==0)=θ:=by simp;omega
  have q6:ν (V=0)=θ:=xdf (by omega);refine⟨_,(stepG_add_atomic lc lc (by k_ne) lc H.f_addU64 (x_addU64_n L) (x_addU64_b L) (x_addU64_x L) .u64 (x_addU64_f L) lc lc c.cellSt (c.thaw 0)).trans (by rw[E];rfl),κ ⟨by omega,120,?_⟩⟩;replace hF:bz L.tWg Wg (x.setCell (stA Wg) (.int .u64 S)):=⟨_,_,c.setSt _⟩
  clear c m p E
  walk_nrm
  u_op qa hF
  u_c ac qa hF
  u_c aX qa hF
  u_leave1 H.f_uAdd qa hF
  u_op qa hF
  u_c ac qa hF
  u_c ai qa hF
  u_c ai qa hF
  u_reg qa hF
  u_op qa hF
  u_op qa hF
  u_op qa hF
  u_op qa hF
  u_skip qa hF
  u_skip qa hF
  u_op qa hF
  u_c ac qa hF
  u_cnd θ qa hF
  u_c aO qa hF
  u_c ai qa hF
  u_reg qa hF
  u_op qa hF
  u_op qa hF
  u_op qa hF
  u_op qa hF
  u_c ac qa hF
  u_c ai qa hF
  u_reg qa hF
  u_op qa hF
  u_op qa hF
  u_op qa hF
  u_op qa hF
  u_c ac qa hF
  u_c ai qa hF
  u_c ai qa hF
  u_reg qa hF
  u_op qa hF
  u_op qa hF
  u_op qa hF
  u_op qa hF
  u_op qa hF
  u_op qa hF
  u_op qa hF
  u_op qa hF
  u_op qa hF
  u_op qa hF
  u_c ac qa hF
  u_cnd θ qa hF
  u_c aO qa hF
  u_c ai qa hF
  u_c ai qa hF
  u_reg qa hF
  u_op qa hF
  u_op qa hF
  u_c ac qa hF
  u_cnd θ qa hF
  u_c aO qa hF
  u_c ai qa hF
  u_c ai qa hF
  u_reg qa hF
  u_op qa hF
  u_op qa hF
  u_op qa hF
  u_skip qa hF
  u_skip qa hF
  u_op qa hF
  u_op qa hF
  u_skip qa hF
  u_skip qa hF
  u_skip qa hF
  u_skip qa hF
  u_op qa hF
  u_c ac qa hF
  u_cnd θ qa hF
  u_c aO qa hF
  u_c ai qa hF
  u_c ai qa hF
  u_reg qa hF
  u_op qa hF
  u_op qa hF
  u_op qa hF
  u_skip qa hF
  u_skip qa hF
  u_op qa hF
  u_c ac qa hF
  u_cnd η qa hF
  u_c aX qa hF
  refine aK (λy h=>?_);replace hF:=qa hF h;clear h;refine⟨lc,_,stepG_unwind_entry (v:=ο #[]) (evs:=#[mk .enable]) lc H.f_enable (x_enable_n L) (x_enable_b L) (x_enable_x L) (x_enable_f L) (by simp[Extern.Race.none_]) (by simp[mk]) (by simp[mk]),?_⟩;refine⟨mT+1,?_⟩;exact cB lc (λy h=>by
   refine goes_leave0 lc lc H.f_add lc ⟨by u_nil,?_⟩
   exact N _ (qa hF h))
theorem waitRound (H:WgLib P L) {K:aa->ah->Prop} {mT:bn}
  (R:∀w,bz L.tWg Wg w->Goes P η (RM L.tWg Wg F) DC0 K mT (G (b₀.at (a₀.put ((ops₀[i₀]?).bind (·.dst)) (ο #[])) (π ops₀ rest₀::k₀)) cs) w)
  (g:aa) (w:ah) (h:Anch L Wg (b₀.at a₀ (π ops₀ (i₀::rest₀)::k₀)) cs g w):
  MG P L.tWg Wg F (sZ P L.tWg Wg F (Anch L Wg (b₀.at a₀ (π ops₀ (i₀::rest₀)::k₀)) cs) (MG P L.tWg Wg F K)) g w:=by
 lib_facts
 obtain⟨T,rfl,V,U,hF⟩:=h;obtain⟨v0,v1,v2,v3,v4,v5,v6,v7,v8,v9,Z,v11,v12,v13,v14,v15,v16,v17,v18,v19,v20,v21,v22,v23,v24,v25,v26,v27,v28,v29,v30,v31,v32,v33,v34,v35,v36,v37,v38,v39,v40,v41,v42,v43,v44,v45,v46,v47,v48,v49,v50,v51,v52,v53,v54,v55,v56,v57,v58,v59,v60,v61,v62,v63,v64,v65,v66,v67,v68,v69,v70,v71,v72,v73,v74,v75,v76,v77,v78,v79,v80,v81,v82,v83,rfl⟩:=array84 T V;simp only[List.getElem?_toArray,List.getElem?_cons_zero,aI]at U;subst U;refine⟨30,?_⟩;simp only[L7,body_wait,waitFn,bL]
 u_c stepG_block qa hF
 u_c ai qa hF
 u_reg qa hF
 u_op qa hF
 u_op qa hF
 u_op qa hF
 u_call H.f_uLoad (nm_uLoad L) uLoadFn qa hF
 u_c ai qa hF
 u_reg qa hF
 u_op qa hF
 u_c ac qa hF
 u_c ai qa hF
 u_reg qa hF
 u_op qa hF
 u_op qa hF
 u_op qa hF
 refine aK (λw1 I=>?_);replace hF:=qa hF I;clear I;refine⟨lc,λv hv c=>?_⟩;rcases aS v with rfl|hvp
 .replace c:WgAt L.tWg Wg w1 0 0:=by simpa using c
  refine⟨_,bK (v:=0) lc lc (by k_ne) lc H.f_loadU64 (x_loadU64_n L) (x_loadU64_b L) (x_loadU64_x L) .u64 (x_loadU64_f L) lc c.cellSt,λ_=>⟨60,?_⟩,λh=>gF lc h⟩;clear c
  walk_nrm
  u_op qa hF
  u_c ac qa hF
  u_c aX qa hF
  u_leave1 H.f_uLoad qa hF
  u_op qa hF
  u_c ac qa hF
  u_c ai qa hF
  u_reg qa hF
  u_op qa hF
  u_op qa hF
  u_op qa hF
  u_op qa hF
  u_c ac qa hF
  u_c ai qa hF
  u_reg qa hF
  u_op qa hF
  u_op qa hF
  u_op qa hF
  u_op qa hF
  u_c ac qa hF
  u_c ai qa hF
  u_c ai qa hF
  u_reg qa hF
  u_op qa hF
  u_op qa hF
  u_c ac qa hF
  u_cond η qa hF
  u_c ai qa hF
  u_cond η qa hF
  u_c ai qa hF
  u_reg qa hF
  refine aK (λw5 p=>?_);replace hF:=qa hF p;clear p;refine⟨lc,_,stepG_mark0 .enable (by simp) lc lc (by k_ne) lc H.f_enable (x_enable_n L) (x_enable_b L) (x_enable_x L) (x_enable_f L),12,?_⟩
  walk_nrm
  u_c ac qa hF
  u_reg qa hF
  u_op qa hF
  u_conv H.underlying_tWgP H.room_tWg (WgLive.cell0 hF).choose_spec qa hF
  refine aK (λw6 x=>?_);replace hF:=qa hF x;clear x;refine⟨lc,_,stepG_markAt (.acquire) (by simp) lc lc (by k_ne) lc H.f_acquire (x_acquire_n L) (x_acquire_b L) (x_acquire_x L) (x_acquire_f L) (by simp[Act.eval,stA]),?_⟩;refine⟨mT+1+19,?_⟩
  walk_nrm
  u_c ac qa hF
  u_c ai qa hF
  u_c ai qa hF
  u_reg qa hF
  u_op qa hF
  u_op qa hF
  u_op qa hF
  u_op qa hF
  u_op qa hF
  u_op qa hF
  u_op qa hF
  u_op qa hF
  u_skip qa hF
  u_skip qa hF
  u_op qa hF
  u_c ac qa hF
  u_cond θ qa hF
  u_c aO qa hF
  u_c aX qa hF
  exact cB lc (λwq E=>by
   refine goes_leave0 lc lc H.f_wait lc ⟨by u_nil,?_⟩
   exact R _ (qa hF E))
 .obtain⟨S,m⟩:∃S:gY,(v:gY)*KK=S:=⟨_,lc⟩
  have a1:S/4294967296=(v:gY):=by rw[<-m];simp only[KK];omega
  have b1:bits .and .u64 S 2147483648=0:=by rw[<-m];have:=st_flag v 0 (by omega) (by omega);simpa[KK]using this
  have b2:bits .and .u64 S 2147483647=0:=by rw[<-m];have:=st_waiters v 0 (by omega) (by omega);simpa[KK]using this
  have c1:IntKind.i32.wrap (v:gY)=(v:gY):=by rw[IntKind.wrap_i32];omega
  have gN:IntKind.u64.wrap (S+1)=S+1:=by rw[IntKind.wrap_u64,<-m];simp only[KK];omega
  have q3:ν ((v:gY)<0)=θ:=xdf (by omega);have q4:ν (0<(v:gY))=η:=xdt (by omega);have q5:((v:gY)==0)=θ:=by simp;omega
  have q6:ν ((v:gY)=0)=θ:=xdf (by omega);rw[m]at c;refine⟨_,bK (v:=S) lc lc (by k_ne) lc H.f_loadU64 (x_loadU64_n L) (x_loadU64_b L) (x_loadU64_x L) .u64 (x_loadU64_f L) lc c.cellSt,λW=>gF W (by omega),λ_=>⟨60,?_⟩⟩;clear c
  walk_nrm
  u_op qa hF
  u_c ac qa hF
  u_c aX qa hF
  u_leave1 H.f_uLoad qa hF
  u_op qa hF
  u_c ac qa hF
  u_c ai qa hF
  u_reg qa hF
  u_op qa hF
  u_op qa hF
  u_op qa hF
  u_op qa hF
  u_c ac qa hF
  u_c ai qa hF
  u_reg qa hF
  u_op qa hF
  u_op qa hF
  u_op qa hF
  u_op qa hF
  u_c ac qa hF
  u_c ai qa hF
  u_c ai qa hF
  u_reg qa hF
  u_op qa hF
  u_op qa hF
  u_c ac qa hF
  u_cnd θ qa hF
  u_c aO qa hF
  u_c ai qa hF
  u_reg qa hF
  u_op qa hF
  u_op qa hF
  u_op qa hF
  u_op qa hF
  u_op qa hF
  u_op qa hF
  u_call H.f_uCas (nm_uCas L) uCasFn qa hF
  u_c ai qa hF
  u_reg qa hF
  u_op qa hF
  u_c ac qa hF
  u_c ai qa hF
  u_reg qa hF
  u_op qa hF
  u_op qa hF
  u_op qa hF
  u_op qa hF
  u_op qa hF
  refine aK (λw2 J=>?_);replace hF:=qa hF J;clear J;refine⟨lc,λY ET c=>⟨λe=>?_,λe=>?_⟩⟩
  .subst e;rw[m]at c|-;refine⟨_,(stepG_cas_hit (v:=S) (n:=S+1) lc lc (by k_ne) lc H.f_casU64 (x_casU64_n L) (x_casU64_b L) (x_casU64_x L) .u64 (x_casU64_f L) lc lc lc c.cellSt (c.thaw 0)).trans (by rfl),40,?_⟩;replace hF:bz L.tWg Wg (w2.setCell (stA Wg) (.int .u64 (S+1))):=⟨_,_,c.setSt _⟩
   clear c
   walk_nrm
   u_op qa hF
   u_c ac qa hF
   u_c aX qa hF
   u_leave1 H.f_uCas qa hF
   u_c ac qa hF
   u_cond η qa hF
   u_c ai qa hF
   u_c ai qa hF
   u_reg qa hF
   u_op qa hF
   u_op qa hF
   u_op qa hF
   u_op qa hF
   u_c ac qa hF
   u_cond η qa hF
   u_reg qa hF
   u_op qa hF
   u_op qa hF
   u_op qa hF
   u_conv H.underlying_tPU32 H.room_tU32 (WgLive.cell1 hF).choose_spec qa hF
   refine aK (λw3 y=>?_);replace hF:=qa hF y;clear y;refine⟨lc,_,stepG_markAt .write (by simp) lc lc (by k_ne) lc H.f_raceWrite (x_raceWrite_n L) (x_raceWrite_b L) (x_raceWrite_x L) (x_raceWrite_f L) (ad:=⟨Wg,1,ε⟩) (by simp[Act.eval]),40,?_⟩
   walk_nrm
   u_c ac qa hF
   u_c ai qa hF
   u_reg qa hF
   u_op qa hF
   u_c ac qa hF
   u_c ai qa hF
   u_c ai qa hF
   u_reg qa hF
   u_op qa hF
   u_op qa hF
   u_op qa hF
   u_op qa hF
   u_skip qa hF
   u_op qa hF
   u_c ac qa hF
   u_cond θ qa hF
   u_c aO qa hF
   u_c ai qa hF
   u_reg qa hF
   u_op qa hF
   u_op qa hF
   u_op qa hF
   u_op qa hF
   refine aK (λw4 M=>?_);replace hF:=qa hF M;clear M;refine⟨lc,lc,λ⟨st,c⟩=>stepG_semacquire_wait lc lc lc H.f_semacquire (x_semacquire_n L) (x_semacquire_b L) (x_semacquire_x L) (x_semacquire_f L) (by simp[Act.eval,smA]) c.cellSm,λz=>?_⟩;refine⟨_,(stepG_semacquire (n:=1) lc lc (by k_ne) lc H.f_semacquire (x_semacquire_n L) (x_semacquire_b L) (x_semacquire_x L) (x_semacquire_f L) (by simp[Act.eval,smA]) z.cellSm (by k_ne) (z.thaw 1)).trans (by rfl),40,?_⟩;replace hF:bz L.tWg Wg (w4.setCell (smA Wg) (.int .u32 0)):=⟨_,_,z.setSm 0⟩
   clear z
   walk_nrm
   u_c ac qa hF
   u_c ai qa hF
   u_reg qa hF
   u_op qa hF
   u_op qa hF
   u_op qa hF
   u_call H.f_uLoad (nm_uLoad L) uLoadFn qa hF
   u_c ai qa hF
   u_reg qa hF
   u_op qa hF
   u_c ac qa hF
   u_c ai qa hF
   u_reg qa hF
   u_op qa hF
   u_op qa hF
   u_op qa hF
   refine aK (λw7 N=>?_);replace hF:=qa hF N;clear N;refine⟨lc,λc=>⟨_,bK (v:=0) lc lc (by k_ne) lc H.f_loadU64 (x_loadU64_n L) (x_loadU64_b L) (x_loadU64_x L) .u64 (x_loadU64_f L) lc c.cellSt,40,?_⟩⟩;clear c
   walk_nrm
   u_op qa hF
   u_c ac qa hF
   u_c aX qa hF
   u_leave1 H.f_uLoad qa hF
   u_op qa hF
   u_op qa hF
   u_c ac qa hF
   u_c ai qa hF
   u_cond η qa hF
   u_c ai qa hF
   u_reg qa hF
   refine aK (λw5 p=>?_);replace hF:=qa hF p;clear p;refine⟨lc,_,stepG_mark0 .enable (by simp) lc lc (by k_ne) lc H.f_enable (x_enable_n L) (x_enable_b L) (x_enable_x L) (x_enable_f L),12,?_⟩
   walk_nrm
   u_c ac qa hF
   u_reg qa hF
   u_op qa hF
   u_conv H.underlying_tWgP H.room_tWg (WgLive.cell0 hF).choose_spec qa hF
   refine aK (λw6 x=>?_);replace hF:=qa hF x;clear x;refine⟨lc,_,stepG_markAt (.acquire) (by simp) lc lc (by k_ne) lc H.f_acquire (x_acquire_n L) (x_acquire_b L) (x_acquire_x L) (x_acquire_f L) (by simp[Act.eval,stA]),?_⟩;refine⟨mT+1+9,?_⟩
   walk_nrm
   u_c ac qa hF
   u_c ai qa hF
   u_c ai qa hF
   u_reg qa hF
   u_op qa hF
   u_c ac qa hF
   u_cond θ qa hF
   u_c aO qa hF
   u_c aX qa hF
   exact cB lc (λwq E=>by
    refine goes_leave0 lc lc H.f_wait lc ⟨by u_nil,?_⟩
    exact R _ (qa hF E))
  .refine⟨_,stepG_cas_miss (v:=(Y:gY)*KK) (old:=S) (n:=S+1) lc lc (by k_ne) lc H.f_casU64 (x_casU64_n L) (x_casU64_b L) (x_casU64_x L) .u64 (x_casU64_f L) lc lc lc c.cellSt (c.thaw 0) (by rw[<-m];simp only[KK];omega),20,?_⟩;clear c
   walk_nrm
   u_op qa hF
   u_c ac qa hF
   u_c aX qa hF
   u_leave1 H.f_uCas qa hF
   u_c ac qa hF
   u_cond θ qa hF
   u_c aO qa hF
   u_c stepG_inBlock qa hF
   u_c stepG_inLoop qa hF
   refine aK (λw3 y=>?_);replace hF:=qa hF y;exact⟨_,lc,by simp,by simp,hF⟩
theorem waitStart (H:WgLib P L) {c:aj} (w:ah) (hF:bz L.tWg Wg w):
  MG P L.tWg Wg F (jT P .disable (MG P L.tWg Wg F (Anch L Wg c cs))) (G ((base L.wait).at ⟨#[ξ (ζ ⟨Wg,0,ε⟩),ae,ae,ae,ae,ae,ae,ae,ae,ae,ae,ae,ae,ae,ae,ae,ae,ae,ae,ae,ae,ae,ae,ae,ae,ae,ae,ae,ae,ae,ae,ae,ae,ae,ae,ae,ae,ae,ae,ae,ae,ae,ae,ae,ae,ae,ae,ae,ae,ae,ae,ae,ae,ae,ae,ae,ae,ae,ae,ae,ae,ae,ae,ae,ae,ae,ae,ae,ae,ae,ae,ae,ae,ae,ae,ae,ae,ae,ae,ae,ae,ae,ae,ae],[]⟩ [.code (body_wait L)]) (c::cs)) w:=by
 lib_facts
 simp only[body_wait,waitFn,bL];refine⟨6,?_⟩
 u_c ai qa hF
 u_cond η qa hF
 u_reg qa hF
 refine aK (λw1 h=>?_);replace hF:=qa hF h;clear h;refine⟨lc,_,stepG_mark0 .disable (by simp) lc lc (by k_ne) lc H.f_disable (x_disable_n L) (x_disable_b L) (x_disable_x L) (x_disable_f L),6,?_⟩
 walk_nrm
 u_c ac qa hF
 u_c stepG_block qa hF
 u_c stepG_loop qa hF
 exact aK (λp m=>⟨_,lc,by simp,by simp,qa hF m⟩)
end
end
end
section
open Go Go.Conc Go.ConcN Sim
def rU (t:aC) (l:Loc):Prop:= ∀i a,touchAt t i=ζ a->a.loc≠l
theorem rU.perm {l:Loc} (h:rU t l) (g:bn):Perm t g l:=λi a ha e=>(h i a ha e).elim
theorem rU.jm5 {l:Loc} (h:rU t l) (g:bn):PermW t g l:=λi a ha e _=>(h i a ha e).elim
section
variable {Sh:Loc->Prop} {Own Rd FV TL:bn->Loc->Prop} {t:aC} {j:bn}
theorem CT.grow (h:CT Sh Own Rd t j) (z:∀k l,FV k l->Own k l\/rU t l) (E:∀k l,TL k l->Rd k l\/rU t l)
  (y:∀k l,Own k l->FV k l) (G:∀k l,Rd k l->TL k l):CT Sh FV TL t j:=
 ⟨h.quiet,λk m p l c=>(z k l c).elim (h.own k m p l) (λf=>f.perm k),λk m p l c=>(E k l c).elim (h.rd k m p l) (λf=>f.jm5 k),
  λl v c=>h.free l v λk m p=>⟨λx=>(c k m p).1 (y k l x),λx=>(c k m p).2 (G k l x)⟩,λl v c=>h.mine l v λk m p x=>c k m p (y k l x),h.nr,h.gs⟩
end
theorem X8 (h:∀op∈t,p9 B op.act) (ha:B<=a.block):rU t (.cell a):=by intro i x p e;obtain⟨op,m,v⟩:=bV p;have c:=h op (mem_of_getElem? m) x v;rw[e]at c;exact cg _ (xll c ha)
end
section
open Go Go.Conc Go.ConcN Sim
open Go.ConcR (KK WgAt stA smA rd wr mk Payload DC0)
def xJ (B:Blocks):Loc->Prop
 |.cell a=>B a.block
 |.obj r=>B r
 |_=>fo
def tC:bn->Loc->Prop:=λ_ _=>fo
section
variable [Payload] (P:ax) (ty:aQ) (Wg C n:bn)
def Gp (jd:bn->Blocks->aG->ah->Prop) (i:bn) (F _O:Blocks) (g:aa) (w:ah):Prop:=
 g.status=.running/\∃v,jd i F v w/\∀w1,Ext F w w1->cj C n w1->bz ty Wg w1->
  ∃g',aB P θ g w1=.go g' (w1.setCell ⟨C,i,ε⟩ v) #[⟨.cell ⟨C,i,ε⟩,η,θ⟩]/\
   ∃m,Goes P θ (RW ty Wg C n 0 i) (DWs Wg tC tC C n (i+1)) (AtR0 P ty Wg C n 0 (i+1) v) m g' (w1.setCell ⟨C,i,ε⟩ v)
def Script (jd:bn->Blocks->aG->ah->Prop) (i:bn) (F0:Blocks) (g:aa) (w:ah):Prop:=
 ∃F,(∀b,F b->F0 b)/\WG P θ (Gp P ty Wg C n jd i) F (λ_=>fo) g w
def AtGoM (jd:bn->Blocks->aG->ah->Prop) (i:bn) (F:Blocks) (Next:aa->ah->Prop) (g:aa) (w:ah):Prop:=
 g.status=.running/\∃g' child,aB P η g w=.spawn g' child w #[]/\child.status=.running/\(cj C n w->Script P ty Wg C n jd i F child w)/\Next g' w
def Scr (jd:bn->Blocks->aG->ah->Prop) (K:aa->ah->Prop):bn->Blocks->Blocks->aa->ah->Prop
 |0,F,_,g,w=>g.status=.running/\(bz ty Wg w->∃A:aa->ah->Prop,(∀g w,A g w->g.status=.running)/\(∀g w,A g w->MG P ty Wg F (sZ P ty Wg F A K) g w)/\MG P ty Wg F (jT P .disable (MG P ty Wg F A)) g w)
 |r+1,F,_,g,w=>g.status=.running/\(bz ty Wg w->MG P ty Wg F (jT P .disable (MG P ty Wg F (yD P ty Wg F (MG P ty Wg F (AtGoM P ty Wg C n jd (n-(r+1)) F λg' w=>WG P η (Scr jd K r) F (λ_=>fo) g' w))))) g w)
end
structure WX where
 stage:bn
 fuel:bn
 deaf:bn
 rank:Rank
 F:Blocks
 O:Blocks
 val:aG
section
variable [Payload] (P:ax) (ty:aQ) (Wg C n:bn) (jd:bn->Blocks->aG->ah->Prop)
inductive WS (i:bn) (d:WX) (g:aa) (w:ah):Prop
 |own:d.stage=9->d.deaf=0->d.fuel=0->WGo P θ (Gp P ty Wg C n jd i) d.rank d.F d.O g w->WS i d g w
 |lib:WSit P ty Wg C n tC tC 0 (i+1) d.val d.stage d.fuel d.deaf g w->jd i d.F d.val w->WS i d g w
inductive Tag where
 |wg (r:bn)|kdS (r:bn)|ad (r:bn)|rs (r:bn)|en (r:bn)|gos (r:bn)
 |kd|anch|ld|cs (vs:bn)|ws|sm|blk|l2|en2|acq
inductive MS (K:aa->ah->Prop):Tag->bn->bn->Rank->Blocks->Blocks->aa->ah->Prop
 |wg {r:bn} {rk:Rank} {F O:Blocks} {g:aa} {w:ah}:r<=n->WGo P η (Scr P ty Wg C n jd K r) rk F O g w->MS K (.wg r) 0 0 rk F O g w
 |kdS {r f:bn} {F:Blocks} {g:aa} {w:ah}:r<n->Goes P η (RM ty Wg F) DC0 (jT P .disable (MG P ty Wg F (yD P ty Wg F (MG P ty Wg F (AtGoM P ty Wg C n jd (n-(r+1)) F λg' w=>WG P η (Scr P ty Wg C n jd K r) F (λ_=>fo) g' w))))) f g w->MS K (.kdS r) f 0 .leaf F (λ_=>fo) g w
 |ad {r f:bn} {F:Blocks} {g:aa} {w:ah}:r<n->Goes P η (RM ty Wg F) DC0 (yD P ty Wg F (MG P ty Wg F (AtGoM P ty Wg C n jd (n-(r+1)) F λg' w=>WG P η (Scr P ty Wg C n jd K r) F (λ_=>fo) g' w))) f g w->MS K (.ad r) f 1 .leaf F (λ_=>fo) g w
 |rs {r f:bn} {F:Blocks} {g:aa} {w:ah}:r<n->Goes P η (RM ty Wg F) DC0 (jT P (.read (smA Wg)) (MG P ty Wg F (jT P .enable (MG P ty Wg F (AtGoM P ty Wg C n jd (n-(r+1)) F λg' w=>WG P η (Scr P ty Wg C n jd K r) F (λ_=>fo) g' w))))) f g w->MS K (.rs r) f 1 .leaf F (λ_=>fo) g w
 |en {r f:bn} {F:Blocks} {g:aa} {w:ah}:r<n->Goes P η (RM ty Wg F) DC0 (jT P .enable (MG P ty Wg F (AtGoM P ty Wg C n jd (n-(r+1)) F λg' w=>WG P η (Scr P ty Wg C n jd K r) F (λ_=>fo) g' w))) f g w->MS K (.en r) f 1 .leaf F (λ_=>fo) g w
 |gos {r f:bn} {F:Blocks} {g:aa} {w:ah}:r<n->Goes P η (RM ty Wg F) DC0 (AtGoM P ty Wg C n jd (n-(r+1)) F λg' w=>WG P η (Scr P ty Wg C n jd K r) F (λ_=>fo) g' w) f g w->MS K (.gos r) f 0 .leaf F (λ_=>fo) g w
 |kd {f:bn} {F:Blocks} {A:aa->ah->Prop} {g:aa} {w:ah}:(∀g w,A g w->g.status=.running)->(∀g w,A g w->MG P ty Wg F (sZ P ty Wg F A K) g w)->Goes P η (RM ty Wg F) DC0 (jT P .disable (MG P ty Wg F A)) f g w->MS K .kd f 0 .leaf F (λ_=>fo) g w
 |anch {f:bn} {F:Blocks} {A:aa->ah->Prop} {g:aa} {w:ah}:(∀g w,A g w->g.status=.running)->(∀g w,A g w->MG P ty Wg F (sZ P ty Wg F A K) g w)->Goes P η (RM ty Wg F) DC0 A f g w->MS K .anch f 1 .leaf F (λ_=>fo) g w
 |ld {f:bn} {F:Blocks} {A:aa->ah->Prop} {g:aa} {w:ah}:(∀g w,A g w->g.status=.running)->(∀g w,A g w->MG P ty Wg F (sZ P ty Wg F A K) g w)->Goes P η (RM ty Wg F) DC0 (sZ P ty Wg F A K) f g w->MS K .ld f 1 .leaf F (λ_=>fo) g w
 |cs {vs f:bn} {F:Blocks} {A:aa->ah->Prop} {g:aa} {w:ah}:(∀g w,A g w->g.status=.running)->(∀g w,A g w->MG P ty Wg F (sZ P ty Wg F A K) g w)->Goes P η (RM ty Wg F) DC0 (Eo P ty Wg F A K vs) f g w->MS K (.cs vs) f 1 .leaf F (λ_=>fo) g w
 |ws {f:bn} {F:Blocks} {g:aa} {w:ah}:Goes P η (RM ty Wg F) DC0 (jT P (.write (smA Wg)) (MG P ty Wg F (zV P ty Wg F K))) f g w->MS K .ws f 1 .leaf F (λ_=>fo) g w
 |sm {f:bn} {F:Blocks} {g:aa} {w:ah}:Goes P η (RM ty Wg F) DC0 (zV P ty Wg F K) f g w->MS K .sm (f+1) 1 .leaf F (λ_=>fo) g w
 |blk {F:Blocks} {g:aa} {w:ah}:(∀w1,RM ty Wg F w w1->zV P ty Wg F K g w1)->MS K .blk 0 1 .leaf F (λ_=>fo) {g with status:=.blocked} w
 |l2 {f:bn} {F:Blocks} {g:aa} {w:ah}:Goes P η (RM ty Wg F) DC0 (En P ty Wg F K) f g w->MS K .l2 f 1 .leaf F (λ_=>fo) g w
 |en2 {f:bn} {F:Blocks} {g:aa} {w:ah}:Goes P η (RM ty Wg F) DC0 (jT P .enable (MG P ty Wg F (jT P (.acquire (stA Wg)) K))) f g w->MS K .en2 f 1 .leaf F (λ_=>fo) g w
 |acq {f:bn} {F:Blocks} {g:aa} {w:ah}:Goes P η (RM ty Wg F) DC0 (jT P (.acquire (stA Wg)) K) f g w->MS K .acq f 0 .leaf F (λ_=>fo) g w
end
section
variable [Payload]
section
variable {P:ax} {ty:aQ} {Wg C n:bn} {jd:bn->Blocks->aG->ah->Prop} {K:aa->ah->Prop} {tag:Tag} {f d:bn} {rk:Rank} {F O:Blocks} {a:aa} {w w1:ah}
omit [Payload] in
theorem zh (w:ah):RM ty Wg F w w:=⟨Ext.refl ..,id⟩
theorem MS.rely (h:MS P ty Wg C n jd K tag f d rk F O a w) (r:RM ty Wg F w w1):MS P ty Wg C n jd K tag f d rk F O a w1:=by
 cases h with
 |wg h0 h=>exact .wg h0 (h.ext r.ext)
 |kdS h0 h=>exact .kdS h0 (h.rely uh r)
 |ad h0 h=>exact .ad h0 (h.rely uh r)
 |rs h0 h=>exact .rs h0 (h.rely uh r)
 |en h0 h=>exact .en h0 (h.rely uh r)
 |gos h0 h=>exact .gos h0 (h.rely uh r)
 |kd h0 h1 h=>exact .kd h0 h1 (h.rely uh r)
 |anch h0 h1 h=>exact .anch h0 h1 (h.rely uh r)
 |ld h0 h1 h=>exact .ld h0 h1 (h.rely uh r)
 |cs h0 h1 h=>exact .cs h0 h1 (h.rely uh r)
 |ws h=>exact .ws (h.rely uh r)
 |sm h=>exact .sm (h.rely uh r)
 |blk h=>exact .blk λm c=>h m (uh _ _ _ r c)
 |l2 h=>exact .l2 (h.rely uh r)
 |en2 h=>exact .en2 (h.rely uh r)
 |acq h=>exact .acq (h.rely uh r)
omit [Payload] in
theorem vB {Stop:aa->ah->Prop} (c:∀g w,Stop g w->g.status=.running) {n:bn} {w:ah} (h:Goes P η (RM ty Wg F) DC0 Stop n g w):g.status=.running:=
 h.running c w (zh w)
theorem jcq:∀(r:bn) (F O:Blocks) (g:aa) (w:ah),Scr P ty Wg C n jd K r F O g w->g.status=.running:=by
 intro r F O g w h;cases r with
 |zero=>exact h.1
 |succ r=>exact h.1
omit [Payload] in
theorem PI {main:gJ} {Stop:Blocks->Blocks->aa->ah->Prop} (c:∀F O g w,Stop F O g w->g.status=.running) {r:Rank} (h:WGo P main Stop r F O g w):g.status=.running:=by
 cases r with
 |leaf=>exact c _ _ _ _ (h w (Ext.refl ..))
 |node f=>exact h.1
theorem MS.status (h:MS P ty Wg C n jd K tag f d rk F O a w):(a.status=.running/\tag≠.blk)\/(a.status=.blocked/\tag=.blk):=by
 cases h with
 |wg h0 h=>exact ι ⟨PI (λF O g w x=>jcq _ F O g w x) h,by simp⟩
 |kdS h0 h=>exact ι ⟨vB (λ_ _ x=>x.1) h,by simp⟩
 |ad h0 h=>exact ι ⟨vB (λ_ _ x=>x.1) h,by simp⟩
 |rs h0 h=>exact ι ⟨vB (λ_ _ x=>x.1) h,by simp⟩
 |en h0 h=>exact ι ⟨vB (λ_ _ x=>x.1) h,by simp⟩
 |gos h0 h=>exact ι ⟨vB (λ_ _ x=>x.1) h,by simp⟩
 |kd h0 h1 h=>exact ι ⟨vB (λ_ _ x=>x.1) h,by simp⟩
 |anch h0 h1 h=>exact ι ⟨vB h0 h,by simp⟩
 |ld h0 h1 h=>exact ι ⟨vB (λ_ _ x=>x.1) h,by simp⟩
 |cs h0 h1 h=>exact ι ⟨vB (λ_ _ x=>x.1) h,by simp⟩
 |ws h=>exact ι ⟨vB (λ_ _ x=>x.1) h,by simp⟩
 |sm h=>exact ι ⟨vB (λ_ _ x=>x.1) h,by simp⟩
 |blk h=>exact κ ⟨lc,lc⟩
 |l2 h=>exact ι ⟨vB (λ_ _ x=>x.1) h,by simp⟩
 |en2 h=>exact ι ⟨vB (λ_ _ x=>x.1) h,by simp⟩
 |acq h=>exact ι ⟨vB (λ_ _ x=>x.1) h,by simp⟩
theorem MS.wokenBy (h:MS P ty Wg C n jd K tag f d rk F O a w) (r:RM ty Wg F w w1) (g g':aa):
  ∃tag' f',MS P ty Wg C n jd K tag' f' d rk F O (woken P g g' w1 a) w1/\f'<=f+1/\(tag'=tag\/(tag=.blk/\tag'=.sm))/\(mayWake P g=η->g'.status=.running->tag'≠.blk):=by
 have c:=h.rely r;unfold Go.Conc.woken;split
 .rcases c.status with⟨z,p⟩|⟨_,rfl⟩;{exact⟨tag,f,by rw[again_running _ (ι z)];exact c,by omega,ι lc,λ_ _=>p⟩}
  .cases c with
   |blk hb=>have m:=hb w1 (zh w1);exact⟨.sm,0+1,by rw[Go.ConcR.again_blocked m.1 m.2.1];exact .sm (aK hb),by omega,κ ⟨lc,lc⟩,λ_ _=>by simp⟩
 .rename_i y;exact⟨tag,f,c,by omega,ι lc,λv x=>gF (by simp[v,x]) y⟩
end
def xd (D:bn->WX):bn->WD:=λi=>⟨if(D i).stage=9 then 7 else(D i).stage,(D i).fuel,(D i).deaf⟩
def nM:Tag->bn
 |.rs _|.en _|.gos _=>1
 |_=>0
def Mh:Tag->Prop
 |.wg _|.kdS _|.ad _|.rs _|.en _|.gos _|.kd|.anch|.ld|.cs _=>True
 |_=>fo
def Ri:Tag->Prop
 |.ws|.sm|.blk=>True
 |_=>fo
def Y3:Tag->Prop
 |.l2|.en2|.acq=>True
 |_=>fo
inductive Mo (j:bn) (D:bn->WD):Tag->gY->gY->Prop
 |opn {tag:Tag}:Mh tag->OpenSt j D->(∀vs,tag=.cs vs->Vc j D<=vs/\1<=vs)->Mo j D tag (((Vc j D+nM tag:bn):gY)*KK) 0
 |reg {tag:Tag}:Ri tag->OpenSt j D->1<=Vc j D->Mo j D tag (((Vc j D:bn):gY)*KK+1) 0
 |last {tag:Tag} (L:bn):Ri tag->L<j->((D L).stage=4\/(D L).stage=3\/(D L).stage=2)->(∀i,i<j->i≠L->(D i).stage=1)->Mo j D tag (if(D L).stage=2 then 0 else 1) 0
 |sema {tag:Tag}:(tag=.ws\/tag=.sm)->AllQuit j D->Mo j D tag 0 1
 |fin {tag:Tag}:Y3 tag->AllQuit j D->Mo j D tag 0 0
def psi (n v:bn):Tag->bn
 |.wg r=>8*n+20+32*r
 |.kdS r=>8*n+20+32*r+24
 |.ad r=>8*n+20+32*r+23
 |.rs r=>8*n+20+32*r+22
 |.en r=>8*n+20+32*r+21
 |.gos r=>8*n+20+32*r+20
 |.kd=>8*n+12
 |.anch=>8*v+8
 |.ld=>8*v+7
 |.cs vs=>8*vs+6
 |.ws=>5
 |.sm=>4
 |.blk=>4
 |.l2=>3
 |.en2=>2
 |.acq=>1
end
end
section
open Go Go.Conc Go.ConcN Sim
open Go.ConcR (KK WgAt stA smA rd wr mk Payload DC0 g_of_ofEvents)
section
variable [Payload]
section
variable (o Wg C:bn) (SB:Blocks)
def ShP:Loc->Prop:=ShB λb=>SB b\/b=Wg
def tT (j:bn) (D:bn->WX) (k:bn) (l:Loc):Prop:= ∃i,i<j/\k=o+i/\(xJ (D i).O l\/l=.cell ⟨C,i,ε⟩)
def RdD (j:bn) (D:bn->WX) (k:bn) (l:Loc):Prop:= ∃i,i<j/\k=o+i/\xJ (λb=>(D i).F b/\¬(D i).O b) l
structure Sep (j:bn) (D:bn->WX) (FM OM:Blocks) (w:ah):Prop where
 wF:∀i,i<j->∀b,(D i).F b->b<w.heap.size/\b≠Wg/\b≠C/\¬SB b
 wO:∀i,i<j->∀b,(D i).O b->(D i).F b
 apart:∀i i',i<j->i'<j->i≠i'->∀b,(D i).O b->¬(D i').F b
 mF:∀b,FM b->b<w.heap.size/\b≠Wg/\b≠C/\¬SB b/\∀i,i<j->¬(D i).O b
 mO:∀b,OM b->FM b/\∀i,i<j->¬(D i).F b
 lW:Wg<w.heap.size
 lC:C<w.heap.size
 lS:∀b,SB b->b<w.heap.size
 hCW:C≠Wg
 sW:¬SB Wg
 sC:¬SB C
end
def LB (o:bn) (a:Addr) (t:aC):Prop:= ∃p,p<=t.size/\(∀i g,i<p->t.g? i=ζ g->g<o)/\∀i,p<=i->t.act? i≠ζ (.mark (.release a))
omit [Payload] in
theorem LB.app {o:bn} {u:aC} (h:LB o a t) (H:∀op∈u,op.act≠.mark (.release a)):LB o a (t++u):=by obtain⟨p,J,x,y⟩:=h;refine⟨p,by simp;omega,λi g m E=>x i g m (by rw[<-g?_old (u:=u) (by omega)];exact E),λi m z=>?_⟩;obtain⟨op,G,c⟩:=aq.1 z;rcases aU G with⟨_,I⟩|⟨_,v⟩;{exact y i m (by rw[act?_of I,c])};exact H op v c
section
variable (P:ax) (ty:aQ) (o Wg C n:bn) (SB:Blocks) (jd:bn->Blocks->aG->ah->Prop)
structure AJ (j:bn) (D:bn->WX) (w:ah) (t:aC):Prop where
 ct:CT (ShP Wg SB) (tT o C j D) (RdD o j D) t (o-1+j)
 norel:LB o (stA Wg) t
 hand:∀i g,t.g? i=ζ g->g≠0->g<o->t.counts i->∃q,t.g? q=ζ 0/\bE t i q
 known:∀i a,touchAt t i=ζ a->Knows t 0 i\/(ShP Wg SB a.loc/\a.kind=.atomic)\/∃g,t.g? i=ζ g/\o<=g/\a.kind≠.atomic
 mem:∀i a,touchAt t i=ζ a->a.loc.isMemory=η
 seen:∀op∈t,p9 w.heap.size op.act
structure iX (j:bn) (gs:eD aa) (w:ah) (t:aC) (D:bn->WX) (q:bn->bn) (d0:bn):Prop where
 size:gs.size=o+j
 old:∀i g,0<i->i<o->gs[i]?=ζ g->QuitsD P (q i) (Deaf t i) g
 wk:∀i,i<j->∃g,gs[o+i]?=ζ g/\WS P ty Wg C n jd i (D i) g w
 tr:AJ o Wg C SB j D w t
 deaf0:Deaf t 0=d0
 deafW:∀i,i<j->Deaf t (o+i)=(D i).deaf
 above:∀k,o+j<=k->Deaf t k=0
 rel:∀i,i<j->(D i).stage<=6->∃r,RelBy (stA Wg) t (o+i) r
 has:∀i,i<j->(D i).stage<=6->Has C i (D i).val w
 pay:cj C n w
 xX:0<o
end
section
variable {P:ax} {ty:aQ} {o Wg C n:bn} {SB:Blocks} {jd:bn->Blocks->aG->ah->Prop} {j:bn} {gs:eD aa} {w w':ah} {t:aC} {D:bn->WX} {q:bn->bn} {d0:bn} {FM OM:Blocks}
omit [Payload] in
theorem Sep.own (h:Sep Wg C SB j D FM OM w):Apart (ShP Wg SB) (tT o C j D) (RdD o j D):=by
 have y:∀{B:Blocks} {l:Loc},xJ B l->∃b,B b/\((∃a,l=.cell a/\a.block=b)\/l=.obj b):=by
  intro B l c;cases l with
  |cell a=>exact⟨_,c,ι ⟨a,lc,lc⟩⟩
  |obj r=>exact⟨_,c,κ lc⟩
  |_=>exact c.elim
 have same:∀{b b':bn} {l:Loc},((∃a:Addr,l=.cell a/\a.block=b)\/l=.obj b)->((∃a:Addr,l=.cell a/\a.block=b')\/l=.obj b')->b=b':=by intro b b' l h1 h2;rcases h1 with⟨a,rfl,rfl⟩|rfl;{rcases h2 with⟨a',e,rfl⟩|e;{cases e;rfl};cases e};rcases h2 with⟨a',e,rfl⟩|e;{cases e};cases e;rfl
 have cellC:∀{b i:bn} {l:Loc},l=.cell ⟨C,i,ε⟩->((∃a:Addr,l=.cell a/\a.block=b)\/l=.obj b)->b=C:=by intro b i l e h1;subst e;rcases h1 with⟨a,e,rfl⟩|e;{cases e;rfl};cases e
 have I:∀{l:Loc} {b:bn},ShP Wg SB l->((∃a:Addr,l=.cell a/\a.block=b)\/l=.obj b)->SB b\/b=Wg:=by rintro l b ⟨a,rfl,E⟩ h1;rcases h1 with⟨a',e,rfl⟩|e;{cases e;exact E};cases e
 refine⟨?_,?_,?_,?_⟩;{rintro k k' l ⟨i,p,rfl,h1⟩ ⟨v,z,rfl,h2⟩;by_cases e:i=v;{rw[e]};exfalso;rcases h1 with h1|h1<;>rcases h2 with h2|h2;{obtain⟨b,m,c⟩:=y h1;obtain⟨b',G,H⟩:=y h2;obtain rfl:=same c H;exact h.apart i v p z e b m (h.wO v z b G)};{obtain⟨b,m,c⟩:=y h1;exact(h.wF i p b (h.wO i p b m)).2.2.1 (cellC h2 c)};{obtain⟨b,m,c⟩:=y h2;exact(h.wF v z b (h.wO v z b m)).2.2.1 (cellC h1 c)};rw[h1]at h2;cases h2;exact e lc};{rintro k k' l ⟨i,p,rfl,h1⟩ ⟨v,z,rfl,h2⟩;obtain⟨b',⟨G,J⟩,H⟩:=y h2;rcases h1 with h1|h1;{obtain⟨b,m,c⟩:=y h1;obtain rfl:=same c H;by_cases e:i=v;{subst e;exact J m};exact h.apart i v p z e b m G};exact(h.wF v z b' G).2.2.1 (cellC h1 H)};{rintro k l ⟨i,p,rfl,h1⟩ E;rcases h1 with h1|h1;{obtain⟨b,m,c⟩:=y h1;have:=h.wF i p b (h.wO i p b m);rcases I E c with x|x;{exact this.2.2.2 x};exact this.2.1 x};have:=I (b:=C) E (ι ⟨_,h1,lc⟩);rcases this with x|x;{exact h.sC x};exact h.hCW x};rintro k l ⟨i,p,rfl,h1⟩ E;obtain⟨b,⟨m,_⟩,c⟩:=y h1;have:=h.wF i p b m;rcases I E c with x|x;{exact this.2.2.2 x};exact this.2.1 x
end
end
section
variable {o Wg C:bn} {SB:Blocks} {j:bn} {w w':ah} {t u:aC} {D D':bn->WX}
theorem ME (h:∀i g,t.g? i=ζ g->g≠0->g<o->t.counts i->∃q,t.g? q=ζ 0/\bE t i q)
  (M:∀op∈u,op.g=0\/o<=op.g\/op.act.touch?=ε):∀i g,(t++u).g? i=ζ g->g≠0->g<o->(t++u).counts i->∃q,(t++u).g? q=ζ 0/\bE (t++u) i q:=by
 intro i g v I H p;have G:=p;obtain⟨x,N,_⟩:=p;obtain⟨op,m,E⟩:=bV N;rcases aU m with⟨y,Y⟩|⟨_,V⟩
 .obtain⟨q,c,J⟩:=h i g (by simpa[bN,getElem?_append_old y]using v) I H ((counts_old y).1 G);have U:q<t.size:=by unfold bN at c;obtain⟨z,R,_⟩:=aq.1 c;exact lt_size_of_getElem? R
  exact⟨q,by simpa[bN,getElem?_append_old U]using c,hb_app u J⟩
 .have W:op.g=g:=by simpa[bN,m]using v
  rcases M op V with h0|h0|h0;{omega};{omega};rw[h0]at E;cases E
theorem Nf (h:∀i a,touchAt t i=ζ a->Knows t 0 i\/(ShP Wg SB a.loc/\a.kind=.atomic)\/∃g,t.g? i=ζ g/\o<=g/\a.kind≠.atomic)
  (z:∀op∈u,∀x,op.act.touch?=ζ x->op.g=0\/(ShP Wg SB x.loc/\x.kind=.atomic)\/(o<=op.g/\x.kind≠.atomic)):
  ∀i a,touchAt (t++u) i=ζ a->Knows (t++u) 0 i\/(ShP Wg SB a.loc/\a.kind=.atomic)\/∃g,(t++u).g? i=ζ g/\o<=g/\a.kind≠.atomic:=by
 intro i a ha;obtain⟨op,c,m⟩:=bV ha;rcases aU c with⟨y,p⟩|⟨_,E⟩;{rcases h i a (by rw[touchAt_of p];exact m)with h0|h0|⟨g,h0,v⟩;{exact ι (h0.app u)};{exact κ (ι h0)};exact κ (κ ⟨g,by rw[g?_old y];exact h0,v⟩)};rcases z op E a m with h0|h0|h0;{have:=knows_own c;rw[h0]at this;exact ι this};{exact κ (ι h0)};exact κ (κ ⟨op.g,by simp[bN,c],h0⟩)
theorem Ww (h:∀op∈t,p9 B op.act) {l:Loc} {S:Blocks} (c:xJ S l) (m:∀b,S b->B<=b):rU t l:=by
 cases l with
 |cell a=>exact X8 h (m _ c)
 |obj r=>intro i x y e;obtain⟨op,v,z⟩:=bV y;have p:=h op (mem_of_getElem? v) x z;rw[e]at p;exact cg _ (xll p (m _ c))
 |_=>exact c.elim
theorem XF {A B E:Blocks} (h:∀b,A b->B b\/E b) {l:Loc} (c:xJ A l):xJ B l\/xJ E l:=by
 cases l with
 |cell a=>exact h _ c
 |obj r=>exact h _ c
 |_=>exact c.elim
theorem AJ.appW (h:AJ o Wg C SB j D w t) (A:Apart (ShP Wg SB) (tT o C j D') (RdD o j D')) (hi:i<j) (ho:0<o) (R:w.heap.size<=w'.heap.size)
  (H:∀c,c≠i->D' c=D c) (hF:∀b,(D i).F b->(D' i).F b) (I:∀b,(D i).O b->(D' i).O b) (Y:∀b,(D' i).F b->(D i).F b\/w.heap.size<=b) (N:∀b,(D' i).O b->(D i).O b\/w.heap.size<=b) (W:∀b,(D i).F b->b<w.heap.size)
  (J:∀op∈u,op.g=o+i)
  (M:∀op∈u,∀x,op.act.touch?=ζ x->x.loc.isMemory=η/\((ShP Wg SB x.loc/\x.kind=.atomic)\/(x.kind=.plain/\(tT o C j D' (o+i) x.loc\/(RdD o j D' (o+i) x.loc/\x.write=θ)))))
  (hn:∀op∈u,op.act≠.mark (.release (stA Wg))) (V:∀op∈u,p9 w'.heap.size op.act):AJ o Wg C SB j D' w' (t++u):=by
 have grow:CT (ShP Wg SB) (tT o C j D') (RdD o j D') t (o-1+j):=by
  refine CT.grow h.ct (λk l=>?_) (λk l=>?_) (λk l=>?_) (λk l=>?_);{rintro⟨c,m,rfl,h1⟩;by_cases e:c=i;{subst e;rcases h1 with h1|h1;{rcases XF N h1 with h2|h2;{exact ι ⟨c,m,lc,ι h2⟩};exact κ (Ww h.seen h2 λ_ x=>x)};exact ι ⟨c,m,lc,κ h1⟩};rw[H c e]at h1;exact ι ⟨c,m,lc,h1⟩};{rintro⟨c,m,rfl,h1⟩;by_cases e:c=i;{subst e;rcases XF (B:=λb=>(D c).F b/\¬(D c).O b) (E:=λb=>w.heap.size<=b) (λb ⟨U,Z⟩=>(Y b U).imp (λx=>⟨x,λy=>Z (I b y)⟩) id) h1 with h2|h2;{exact ι ⟨c,m,lc,h2⟩};exact κ (Ww h.seen h2 λ_ x=>x)};rw[H c e]at h1;exact ι ⟨c,m,lc,h1⟩}
  .rintro⟨c,m,rfl,h1⟩;by_cases e:c=i
   .subst e;refine⟨c,m,lc,h1.imp (λx=>?_) id⟩;cases l with
    |cell a=>exact I _ x
    |obj r=>exact I _ x
    |_=>exact x.elim
   .exact⟨c,m,lc,by rw[H c e];exact h1⟩
  .rintro⟨c,m,rfl,h1⟩;by_cases e:c=i
   .subst e;have key:∀b,((D c).F b/\¬(D c).O b)->((D' c).F b/\¬(D' c).O b):=λb ⟨x,y⟩=>⟨hF b x,λz=>(N b z).elim y λv=>by have:=W b x;omega⟩
    refine⟨c,m,lc,?_⟩;cases l with
    |cell a=>exact key _ h1
    |obj r=>exact key _ h1
    |_=>exact h1.elim
   .exact⟨c,m,lc,by rw[H c e];exact h1⟩
 refine⟨grow.appW A (k:=o+i) (by omega) (by omega) λop p=>⟨J op p,λx G=>?_⟩,h.norel.app hn,ME h.hand λop p=>κ (ι (by rw[J op p];omega)),Nf h.known λop p x G=>?_,Gr h.mem λop p x G=>(M op p x G).1,λop p=>?_⟩;{rcases(M op p x G).2 with⟨h1,h2⟩|⟨h1,h2⟩;{exact ι ⟨h1,by rw[h2];simp,by rw[h2];simp⟩};exact κ h2};{rcases(M op p x G).2 with h1|⟨h1,_⟩;{exact κ (ι h1)};exact κ (κ ⟨by rw[J op p];omega,by rw[h1];simp⟩)};rcases bO.1 p with h'|h';{exact(h.seen op h').mono R};exact V op h'
theorem AJ.app0 (h:AJ o Wg C SB j D w t) (A:Apart (ShP Wg SB) (tT o C j D) (RdD o j D)) (p:w.heap.size<=w'.heap.size) (m:∀op∈u,Ok0 (ShP Wg SB) (tT o C j D) (RdD o j D) (o-1+j) op)
  (y:∀op∈u,∀x,op.act.touch?=ζ x->x.loc.isMemory=η) (hn:∀op∈u,op.act≠.mark (.release (stA Wg))) (v:∀op∈u,p9 w'.heap.size op.act):AJ o Wg C SB j D w' (t++u):=by
 refine⟨h.ct.app0 A m,h.norel.app hn,ME h.hand λop c=>ι (m op c).1,Nf h.known λop c x _=>ι (m op c).1,Gr h.mem y,λop c=>?_⟩;rcases bO.1 c with h'|h';{exact(h.seen op h').mono p};exact v op h'
end
end
section
open Go Go.Conc Go.ConcN Sim
def RL (N:bn) (f g:bn->Rank):Prop:= ∃i,i<N/\Rank.sub (f i) (g i)/\∀k,k≠i->f k=g k
theorem RL.wf (N:bn):WellFounded (RL N):=by
 induction N with
 |zero=>exact⟨λg=>⟨_,λf ⟨i,p,_⟩=>gF p (au i)⟩⟩
 |succ N ih=>
  have key:∀r:Rank,∀g:bn->Rank,g N=r->Acc (RL (N+1)) g:=by
   intro r;induction r using Rank.wf.induction with
   |_ r ihr=>
    intro g c;have inner:∀g:bn->Rank,g N=r->Acc (RL (N+1)) g:=by
     intro g;induction g using ih.induction with
     |_ g ihg=>intro c;refine⟨_,λf ⟨i,p,v,m⟩=>?_⟩;by_cases e:i=N;{subst e;exact ihr (f i) (c▸v) f lc};exact ihg f ⟨i,by omega,v,m⟩ ((m N (λh=>e h.symm)).trans c)
    exact inner g c
  exact⟨λg=>key _ g lc⟩
abbrev Mea:=bn×(bn->Rank)×bn
def MLt (N:bn):Mea->Mea->Prop:=Prod.Lex (· <·) (Prod.Lex (RL N) (· <·))
theorem MLt.wf (N:bn):WellFounded (MLt N):=(Prod.lex Nat.lt_wfRel (Prod.lex ⟨RL N,RL.wf N⟩ Nat.lt_wfRel)).wf
end
section
open Go Go.Conc Go.ConcN Sim
open Go.ConcR (KK WgAt stA smA rd wr mk Payload DC0 g_of_ofEvents)
section
variable [Payload]
section
variable {P:ax} {ty:aQ} {o Wg C n:bn} {SB:Blocks} {jd:bn->Blocks->aG->ah->Prop} {j:bn} {gs:eD aa} {w w':ah} {t:aC} {D:bn->WX} {q:bn->bn} {d0:bn} {FM OM:Blocks}
theorem WS.rely (jm:∀i F v w w1,jd i F v w->Ext F w w1->jd i F v w1) {d:WX} (h:WS P ty Wg C n jd i d g w) (e:Ext d.F w w') (r:RW ty Wg C n 0 i w w'):WS P ty Wg C n jd i d g w':=by
 cases h with
 |own h1 h2 h3 h=>exact .own h1 h2 h3 (h.ext e)
 |lib h hr=>exact .lib (h.rely (by simpa using r)) (jm _ _ _ _ _ hr e)
theorem WS.status {d:WX} (h:WS P ty Wg C n jd i d g w):g.status=.running\/g.status=.finished:=by
 cases h with
 |own h1 h2 h3 h=>exact ι (PI (λ_ _ _ _ x=>x.1) h)
 |lib h hr=>exact h.status
theorem WS.woken {d:WX} (h:WS P ty Wg C n jd i d g w) (a a':aa) (w1:ah):woken P a a' w1 g=g:=by unfold Go.Conc.woken;split;{exact again_running _ h.status};rfl
theorem iX.stepW (jm:∀i F v w w1,jd i F v w->Ext F w w1->jd i F v w1) (h:iX P ty o Wg C n SB jd j gs w t D q d0) (S:Sep Wg C SB j D FM OM w) (N:i<j) {pos:jb} {x:WX}
  (W:Sep Wg C SB j (upd D i x) FM OM w')
  (I:∀c,c<j->c≠i->Ext (D c).F w w'/\RW ty Wg C n 0 c w w') (pM:WS P ty Wg C n jd i x g' w') (Z:w.heap.size<=w'.heap.size)
  (hF:∀b,(D i).F b->x.F b) (hO:∀b,(D i).O b->x.O b) (l8:∀b,x.F b->(D i).F b\/w.heap.size<=b) (yX:∀b,x.O b->(D i).O b\/w.heap.size<=b)
  (H:∀e∈es,∀y,(al e).touch?=ζ y->y.loc.isMemory=η/\((ShP Wg SB y.loc/\y.kind=.atomic)\/(y.kind=.plain/\(tT o C j (upd D i x) (o+i) y.loc\/(RdD o j (upd D i x) (o+i) y.loc/\y.write=θ)))))
  (V:∀e∈es,e.loc≠.mark (.release (stA Wg))) (hl:∀e∈es,p9 w'.heap.size (al e))
  (zO:az (D i).deaf es=x.deaf) (hrel:x.stage<=6->∃r,RelBy (stA Wg) (t++aw (o+i) fn pos es) (o+i) r)
  (iV:x.stage<=6->Has C i x.val w') (oh:cj C n w'):
  iX P ty o Wg C n SB jd j ((gs.map (woken P g g' w')).setIfInBounds (o+i) g') w' (t++aw (o+i) fn pos es) (upd D i x) q d0:=by
 have M:=h.xX;have ne:∀k,k≠o+i->Deaf (t++aw (o+i) fn pos es) k=Deaf t k:=λk H=>bB t (λe=>H e.symm) _ g_of_ofEvents;refine⟨by simp[h.size],λc g1 h0 Y U=>?_,λc p=>?_,?_,by rw[ne 0 (by omega),h.deaf0],λc p=>?_,λk tJ=>by rw[ne k (by omega)];exact h.above k tJ,λc p m=>?_,λc p m=>?_,oh,M⟩;{rw[bk _ _ _ _ (by omega)]at U;obtain⟨y,z,rfl⟩:=aq.1 U;have R:=h.old c y h0 Y z;rw[bH R,ne c (by omega)];exact R};{by_cases e:c=i;{subst e;exact⟨g',bC _ _ _ (by rw[h.size];omega),by rw[ao];exact pM⟩};obtain⟨y,z,J⟩:=h.wk c p;refine⟨y,by rw[bk _ _ _ _ (by omega),z,bR,J.woken],?_⟩;rw[aA D _ e];exact J.rely jm (I c p e).1 (I c p e).2};{refine h.tr.appW W.own N M Z (λc e=>aA D _ e) (by rw[ao];exact hF) (by rw[ao];exact hO) (by rw[ao];exact l8) (by rw[ao];exact yX) (λb hb=>(S.wF i N b hb).1) g_of_ofEvents (λop E y z=>?_) (norel_of V) (λop E=>?_);{obtain⟨e,G,rfl⟩:=am E;exact H e G y z};obtain⟨e,G,rfl⟩:=am E;exact hl e G};{by_cases e:c=i;{subst e;rw[Deaf_own,h.deafW c p,ao];exact zO};rw[ne _ (by omega),h.deafW c p,aA D _ e]};{by_cases e:c=i;{subst e;rw[ao]at m;exact hrel m};rw[aA D _ e]at m;obtain⟨r,hr⟩:=h.rel c p m;exact⟨r,hr.appOther g_of_ofEvents (by omega)⟩};by_cases e:c=i;{subst e;rw[ao]at m|-;exact iV m};rw[aA D _ e]at m|-;exact(I c p e).2.cell.trans (h.has c p m)
theorem iX.step0 (jm:∀i F v w w1,jd i F v w->Ext F w w1->jd i F v w1) (h:iX P ty o Wg C n SB jd j gs w t D q d0) (S:Sep Wg C SB j D FM OM w) {a:aa} {pos:jb}
  (G:∀i,i<j->Ext (D i).F w w'/\RW ty Wg C n 0 i w w') (U:w.heap.size<=w'.heap.size)
  (V:∀op∈aw 0 fn pos es,Ok0 (ShP Wg SB) (tT o C j D) (RdD o j D) (o-1+j) op) (hm:∀e∈es,∀y,(al e).touch?=ζ y->y.loc.isMemory=η)
  (M:∀e∈es,e.loc≠.mark (.release (stA Wg))) (Z:∀e∈es,p9 w'.heap.size (al e)) (oh:cj C n w'):
  iX P ty o Wg C n SB jd j ((gs.map (woken P a a' w')).setIfInBounds 0 a') w' (t++aw 0 fn pos es) D q (az d0 es):=by
 have N:=h.xX;have ne:∀k,k≠0->Deaf (t++aw 0 fn pos es) k=Deaf t k:=λk Y=>bB t (λe=>Y e.symm) _ g_of_ofEvents;refine⟨by simp[h.size],λc g1 W R J=>?_,λc m=>?_,?_,by rw[Deaf_own,h.deaf0],λc m=>by rw[ne _ (by omega),h.deafW c m],λk tJ=>by rw[ne k (by omega)];exact h.above k tJ,λc m p=>?_,λc m p=>(G c m).2.cell.trans (h.has c m p),oh,N⟩;{rw[bk _ _ _ _ (by omega)]at J;obtain⟨y,x,rfl⟩:=aq.1 J;have I:=h.old c y W R x;rw[bH I,ne c (by omega)];exact I};{obtain⟨y,x,H⟩:=h.wk c m;exact⟨y,by rw[bk _ _ _ _ (by omega),x,bR,H.woken],H.rely jm (G c m).1 (G c m).2⟩};{refine h.tr.app0 S.own U V (λop z y x=>?_) (norel_of M) (λop z=>?_);{obtain⟨e,E,rfl⟩:=am z;exact hm e E y x};obtain⟨e,E,rfl⟩:=am z;exact Z e E};obtain⟨r,hr⟩:=h.rel c m p;exact⟨r,hr.appOther g_of_ofEvents (by omega)⟩
theorem iX.jc0 (h:iX P ty o Wg C n SB jd j gs w t D q d0) (S:Sep Wg C SB j D FM OM w) {k:bn} (k0:0<k) (ko:k<o) {pos:jb} {R:bn}
  (I:∀e∈es,e.mute=η) (E:QuitsD P R (az (Deaf t k) es) g'):
  iX P ty o Wg C n SB jd j ((gs.map (woken P g g' w)).setIfInBounds k g') w (t++aw k fn pos es) D (upd q k R) d0:=by
 have U:=h.xX;have ne:∀k',k'≠k->Deaf (t++aw k fn pos es) k'=Deaf t k':=λk' Y=>bB t (λe=>Y e.symm) _ g_of_ofEvents;have quiet:∀op∈aw k fn pos es,op.act.touch?=ε:=λop c=>by obtain⟨e,z,rfl⟩:=am c;exact touch_mute (I e z)
 refine⟨by simp[h.size],λm g1 W V G=>?_,λm v=>?_,?_,by rw[ne 0 (by omega),h.deaf0],λm v=>by rw[ne _ (by omega),h.deafW m v],λk' tJ=>by rw[ne k' (by omega)];exact h.above k' tJ,λm v J=>?_,h.has,h.pay,U⟩;{by_cases e:m=k;{subst e;rw[bC _ _ _ (by rw[h.size];omega)]at G;cases G;rw[ao,Deaf_own];exact E};rw[bk _ _ _ _ (λx=>e x.symm)]at G;obtain⟨y,M,rfl⟩:=aq.1 G;have E:=h.old m y W V M;rw[bH E,ne m e,aA q _ e];exact E};{obtain⟨y,M,N⟩:=h.wk m v;exact⟨y,by rw[bk _ _ _ _ (by omega),M,bR,N.woken],N⟩}
 .have A:=S.own (o:=o);refine⟨h.tr.ct.appW A (k:=k) (by omega) (by omega) λop c=>⟨g_of_ofEvents op c,λx p=>by rw[quiet op c]at p;cases p⟩,h.tr.norel.app (norel_of λe z H=>(by have:=I e z;obtain⟨l,_,_⟩:=e;have H:l=_:=H;subst H;cases this)),ME h.tr.hand λop c=>κ (κ (quiet op c)),
   Nf h.tr.known λop c x p=>(by rw[quiet op c]at p;cases p),Gr h.tr.mem λop c x p=>(by rw[quiet op c]at p;cases p),MZ h.tr.seen λop c=>by obtain⟨e,z,rfl⟩:=am c;exact Ew (low_mute (I e z) _)⟩
 .obtain⟨r,Z⟩:=h.rel m v J;exact⟨r,Z.appOther g_of_ofEvents (by omega)⟩
theorem iX.at (jm:∀i F v w w1,jd i F v w->Ext F w w1->jd i F v w1) (h:iX P ty o Wg C n SB jd j gs w t D q d0) (d:bn):iX P ty o Wg C n SB jd j gs (w.at d) t D q d0:=
 ⟨h.size,h.old,λi c=>let⟨g,hg,hs⟩:=h.wk i c;⟨g,hg,hs.rely jm ⟨jg _,λ_ _=>lc⟩ (RW.at w d)⟩,⟨h.tr.ct,h.tr.norel,h.tr.hand,h.tr.known,h.tr.mem,h.tr.seen⟩,h.deaf0,h.deafW,h.above,h.rel,h.has,h.pay,h.xX⟩
end
end
section
variable [Payload]
section
variable {P:ax} {ty:aQ} {o Wg C n:bn} {SB:Blocks} {jd:bn->Blocks->aG->ah->Prop} {j:bn} {gs:eD aa} {w:ah} {t:aC} {D:bn->WX} {q:bn->bn} {FM OM:Blocks}
theorem iX.spawn (h:iX P ty o Wg C n SB jd j gs w t D q 0) {x:WX} (S':Sep Wg C SB (j+1) (upd D j x) FM OM w) {child:aa} (h9:x.stage=9) (hx:x.deaf=0) (N:WS P ty Wg C n jd j x child w) {pos:jb} {fn':aL} {pos':jb}:
  iX P ty o Wg C n SB jd (j+1) ((gs.setIfInBounds 0 a').push child) w (t++#[{g:=0,fn,pos,act:=.go (o+j)},{g:=o+j,fn:=fn',pos:=pos',act:=.start}]) (upd D j x) q 0:=by
 have eY:=h.xX;have quiet:∀op∈(#[{g:=0,fn,pos,act:=.go (o+j)},{g:=o+j,fn:=fn',pos:=pos',act:=.start}]:aC),op.act.touch?=ε/\(op.g=0\/op.g=o+j)/\op.act≠.mark (.release (stA Wg))/\p9 w.heap.size op.act:=λop p=>by simp only[aZ,cN,List.not_mem_nil,or_false]at p;rcases p with rfl|rfl;{exact⟨lc,ι lc,by simp,Ew trivial⟩};exact⟨lc,κ lc,by simp,Ew trivial⟩
 have deaf:∀k,Deaf (t++#[{g:=0,fn,pos,act:=.go (o+j)},{g:=o+j,fn:=fn',pos:=pos',act:=.start}]) k=Deaf t k:=λk=>by have:=Deaf_append t k [{g:=0,fn,pos,act:=.go (o+j)},{g:=o+j,fn:=fn',pos:=pos',act:=.start}];rw[show(#[{g:=0,fn,pos,act:=.go (o+j)},{g:=o+j,fn:=fn',pos:=pos',act:=.start}]:aC)=[{g:=0,fn,pos,act:=.go (o+j)},{g:=o+j,fn:=fn',pos:=pos',act:=.start}].toArray from lc,this];simp[deafStep]
 have Y:∀(i:bn),i<j->i≠j:=λi G=>Nat.ne_of_lt G;refine⟨by simp[h.size];omega,λc g1 h0 eZ lJ=>?_,λc W=>?_,?_,by rw[deaf,h.deaf0],λc W=>?_,λk hk=>by rw[deaf];exact h.above k (by omega),λc W m=>?_,λc W m=>?_,h.pay,eY⟩
 .have R:c<(gs.setIfInBounds 0 a').size:=by simp[h.size];omega
  rw[bA R]at lJ;have gV:gs[c]?=ζ g1:=by rw[<-lJ,<-aN R,xne (by omega)]
  rw[deaf];exact h.old c g1 h0 eZ gV
 .by_cases e:c=j
  .subst e;refine⟨child,?_,by rw[ao];exact N⟩;have:o+c=(gs.setIfInBounds 0 a').size:=by simp[h.size]
   rw[this];exact Array.getElem?_push_size
  .obtain⟨y,E,Ah⟩:=h.wk c (by omega);refine⟨y,?_,by rw[aA D _ e];exact Ah⟩;have R:o+c<(gs.setIfInBounds 0 a').size:=by simp[h.size];omega
   rw[bA R,<-aN R,xne (by omega)];exact E
 .have same:∀k l,k<=o-1+j->(tT o C (j+1) (upd D j x) k l↔tT o C j D k l)/\(RdD o (j+1) (upd D j x) k l↔RdD o j D k l):=by
   intro k l hk;refine⟨⟨?_,?_⟩,⟨?_,?_⟩⟩
   .rintro⟨i,G,rfl,z⟩;have e:i≠j:=by omega
    rw[aA D _ e]at z;exact⟨i,by omega,lc,z⟩
   .rintro⟨i,G,rfl,z⟩;exact⟨i,by omega,lc,by rw[aA D _ (Y i G)];exact z⟩
   .rintro⟨i,G,rfl,z⟩;have e:i≠j:=by omega
    rw[aA D _ e]at z;exact⟨i,by omega,lc,z⟩
   .rintro⟨i,G,rfl,z⟩;exact⟨i,by omega,lc,by rw[aA D _ (Y i G)];exact z⟩
  have J:=h.tr.ct;have U:CT (ShP Wg SB) (tT o C (j+1) (upd D j x)) (RdD o (j+1) (upd D j x)) t (o-1+j):=
   ⟨J.quiet,λk I v l H=>J.own k I v l ((same k l v).1.1 H),λk I v l H=>J.rd k I v l ((same k l v).2.1 H),
    λl N H=>J.free l N λk I v=>⟨λy=>(H k I v).1 ((same k l v).1.2 y),λy=>(H k I v).2 ((same k l v).2.2 y)⟩,λl N H=>J.mine l N λk I v y=>H k I v ((same k l v).1.2 y),J.nr,J.gs⟩
  have Z:o-1+j+1=o+j:=by omega
  have V:=CT.fork S'.own U (x:={g:=0,fn,pos,act:=.go (o+j)}) (y:={g:=o+j,fn:=fn',pos:=pos',act:=.start}) ⟨lc,by rw[Z]⟩ ⟨by rw[Z],lc⟩ h.deaf0;refine⟨V,h.tr.norel.app λop p=>(quiet op p).2.2.1,ME h.tr.hand λop p=>κ (κ (quiet op p).1),Nf h.tr.known λop p y E=>(by rw[(quiet op p).1]at E;cases E),Gr h.tr.mem λop p y E=>(by rw[(quiet op p).1]at E;cases E),MZ h.tr.seen λop p=>(quiet op p).2.2.2⟩
 .by_cases e:c=j;{subst e;rw[deaf,ao,hx];exact h.above _ (jg _)};rw[deaf,h.deafW c (by omega),aA D _ e]
 .by_cases e:c=j;{subst e;rw[ao]at m;omega};rw[aA D _ e]at m;obtain⟨r,hr⟩:=h.rel c (by omega) m;refine⟨r,hr.app λi G hg hc=>?_⟩;obtain⟨y,E,_⟩:=hc;obtain⟨op,p,M⟩:=bV E;rcases aU p with⟨eZ,_⟩|⟨_,SH⟩;{omega};rw[(quiet op SH).1]at M;cases M
 .by_cases e:c=j;{subst e;rw[ao]at m;omega};rw[aA D _ e]at m|-;exact h.has c (by omega) m
end
end
def JT (n:bn):Tag->bn->Prop
 |.wg r,j=>j+r=n
 |.kdS r,j|.ad r,j|.rs r,j|.en r,j|.gos r,j=>j+r+1=n
 |_,j=>j=n
def jP (j:bn) (D:bn->WX):bn:=sumTo j λi=>(D i).stage
def lZ (j:bn) (D:bn->WX):bn:=sumTo j λi=>(D i).fuel
def ranks (n:bn) (D:bn->WX) (rk:Rank):bn->Rank:=λi=>if i=n then rk else(D i).rank
structure Kept (Wg C L0:bn) (w0:ah) (j:bn) (D:bn->WX) (OM:Blocks) (w:ah):Prop where
 keep:∀b,b<L0->w.heap[b]?=w0.heap[b]?
 lW:L0<=Wg
 lC:L0<=C
 lO:∀i,i<j->∀b,(D i).O b->L0<=b
 lM:∀b,OM b->L0<=b
 tape:w.tape=w0.tape
 os:w.os=w0.os
 output:w.output=w0.output
 nb:NB w0->NB w
theorem Nn {b:bn} (_:∀r,r≠b->w'.heap[r]?=w.heap[r]?) (_:∃c e z,w'.heap[b]?=ζ (.cells c e z)) (_:NB w):NB w':=trivial
section
variable [Payload] (P:ax) (ty:aQ) (o Wg C n:bn) (SB:Blocks) (jd:bn->Blocks->aG->ah->Prop) (K:aa->ah->Prop) (L0:bn) (w0:ah)
def wz (μ:Mea) (m:Machine) (t:aC):Prop:=
 ∃(gs:eD aa) (w:ah) (sl:gI (bn×bn)) (j:bn) (D:bn->WX) (q:bn->bn) (tag:Tag) (f0 d0:bn) (rk:Rank) (FM OM:Blocks) (a:aa) (st sm:gY),
  m=crowd gs w sl/\gs[0]?=ζ a/\MS P ty Wg C n jd K tag f0 d0 rk FM OM a w/\iX P ty o Wg C n SB jd j gs w t D q d0/\Sep Wg C SB j D FM OM w/\WgAt ty Wg w st sm/\Mo j (xd D) tag st sm/\JT n tag j/\
  Kept Wg C L0 w0 j D OM w/\μ=(psi n (Vc j (xd D)) tag+jP j D,ranks n D rk,f0+2*lZ j D+2*sumTo o q)
end
theorem JT.retag {tag tag':Tag} (h:JT n tag j) (e:tag'=tag\/(tag=.blk/\tag'=.sm)):JT n tag' j:=by rcases e with rfl|⟨rfl,rfl⟩;{exact h};exact h
theorem Xg (n v:bn) {tag tag':Tag} (e:tag'=tag\/(tag=.blk/\tag'=.sm)):psi n v tag'=psi n v tag:=by rcases e with rfl|⟨rfl,rfl⟩<;>rfl
theorem q70 (n:bn) {v v':bn} (h:v'<=v) (tag:Tag):psi n v' tag<=psi n v tag:=by cases tag<;>simp only[psi]<;>omega
theorem JT.le {tag:Tag} (h:JT n tag j):j<=n:=by cases tag<;>simp only[JT]at h<;>omega
section
variable [Payload] {P:ax} {ty:aQ} {o Wg C n:bn} {SB:Blocks} {jd:bn->Blocks->aG->ah->Prop} {K:aa->ah->Prop} {L0:bn} {w0:ah} {gs:eD aa} {w w':ah} {sl:gI (bn×bn)} {j:bn} {D:bn->WX} {q:bn->bn} {tag:Tag} {f0 d0:bn} {rk:Rank} {FM OM:Blocks} {a:aa} {t:aC}
theorem workerStep (jm:∀i F v w w1,jd i F v w->Ext F w w1->jd i F v w1) (ha:gs[0]?=ζ a) (kP:MS P ty Wg C n jd K tag f0 d0 rk FM OM a w) (N:iX P ty o Wg C n SB jd j gs w t D q d0) (S:Sep Wg C SB j D FM OM w) (R:JT n tag j) (fE:Kept Wg C L0 w0 j D OM w) (m:i<j) {x:WX} {st' sm':gY} (hg:gs[o+i]?=ζ g) (E:aB P θ g w=.go g' w' es)
  (M:Sep Wg C SB j (upd D i x) FM OM w') (z:RM ty Wg FM w w')
  (jK:∀p,p<j->p≠i->Ext (D p).F w w'/\RW ty Wg C n 0 p w w') (pM:WS P ty Wg C n jd i x g' w') (fC:w.heap.size<=w'.heap.size)
  (hF:∀b,(D i).F b->x.F b) (hO:∀b,(D i).O b->x.O b) (l8:∀b,x.F b->(D i).F b\/w.heap.size<=b) (yX:∀b,x.O b->(D i).O b\/w.heap.size<=b)
  (G:∀e∈es,∀y,(al e).touch?=ζ y->y.loc.isMemory=η/\((ShP Wg SB y.loc/\y.kind=.atomic)\/(y.kind=.plain/\(tT o C j (upd D i x) (o+i) y.loc\/(RdD o j (upd D i x) (o+i) y.loc/\y.write=θ)))))
  (W:∀e∈es,e.loc≠.mark (.release (stA Wg))) (hl:∀e∈es,p9 w'.heap.size (al e))
  (zO:az (D i).deaf es=x.deaf) (hrel:x.stage<=6->∃r,RelBy (stA Wg) (t++aw (o+i) g.frame.fn g.frame.place es) (o+i) r)
  (iV:x.stage<=6->Has C i x.val w') (oh:cj C n w') (fI:WgAt ty Wg w' st' sm')
  (Z:∀tag',(tag'=tag\/(tag=.blk/\tag'=.sm))->(mayWake P g=η->g'.status=.running->tag'≠.blk)->Mo j (xd (upd D i x)) tag' st' sm')
  (rD:Kept Wg C L0 w0 j (upd D i x) OM w')
  (eZ:(x.stage<(D i).stage/\cnt (xd (upd D i x) i)<=cnt (xd D i))\/(x.stage=(D i).stage/\Rank.sub x.rank (D i).rank)\/(x.stage=(D i).stage/\x.rank=(D i).rank/\x.fuel+1=(D i).fuel)):
  ∃U ops V,runT P (crowd gs w sl) (o+i)=(.next U,ops)/\MLt (n+1) V (psi n (Vc j (xd D)) tag+jP j D,ranks n D rk,f0+2*lZ j D+2*sumTo o q)/\wz P ty o Wg C n SB jd K L0 w0 V U (t++ops):=by
 have eY:=N.xX;have Kc:=R.le;obtain⟨tag',f',xY,yT,H,Y⟩:=kP.wokenBy z g g';have fA:=bp (P:=P) (sl:=sl) (i:=o+i) hg (by rw[show(o+i==0)=θ from by simp;omega];exact E);have iN:=N.stepW (fn:=g.frame.fn) (pos:=g.frame.place) jm S m M jK pM fC hF hO l8 yX G W hl zO hrel iV oh (g:=g);refine⟨_,_,_,fA,?_,_,w',sl,j,upd D i x,q,tag',f',d0,rk,FM,OM,woken P g g' w' a,st',sm',lc,by rw[bk _ _ _ _ (by omega),ha];rfl,xY,iN,M,fI,Z tag' H Y,R.retag H,rD,lc⟩;rw[Xg n _ H];have e1:=sumTo_upd D x (λd:WX=>cnt ⟨if d.stage=9 then 7 else d.stage,d.fuel,d.deaf⟩) m;have e2:=sumTo_upd D x WX.stage m;have e3:=sumTo_upd D x WX.fuel m;have c1:cnt (xd (upd D i x) i)=cnt ⟨if x.stage=9 then 7 else x.stage,x.fuel,x.deaf⟩:=by simp only[xd,ao]
 have I:Vc j (xd (upd D i x))=sumTo j λa=>cnt ⟨if(upd D i x a).stage=9 then 7 else(upd D i x a).stage,(upd D i x a).fuel,(upd D i x a).deaf⟩:=lc;have J:Vc j (xd D)=sumTo j λa=>cnt ⟨if(D a).stage=9 then 7 else(D a).stage,(D a).fuel,(D a).deaf⟩:=lc;rcases eZ with⟨h,c⟩|⟨h,c⟩|⟨h,c,h3⟩;{refine bj _ _ ?_;rw[c1]at c;have h2':cnt ⟨if x.stage=9 then 7 else x.stage,x.fuel,x.deaf⟩<=cnt ⟨if(D i).stage=9 then 7 else(D i).stage,(D i).fuel,(D i).deaf⟩:=c;have:=q70 n (v':=Vc j (xd (upd D i x))) (v:=Vc j (xd D)) (by rw[I,J];omega) tag;simp only[jP];omega}
 .have ec:cnt ⟨if x.stage=9 then 7 else x.stage,x.fuel,x.deaf⟩=cnt ⟨if(D i).stage=9 then 7 else(D i).stage,(D i).fuel,(D i).deaf⟩:=by simp only[cnt,h]
  have ev:Vc j (xd (upd D i x))=Vc j (xd D):=by rw[I,J];omega
  have es:jP j (upd D i x)=jP j D:=by simp only[jP];omega
  rw[ev,es];refine aT _ (bj _ _ ⟨i,by omega,?_,λk G=>?_⟩);{simp only[ranks,ao];rw[iO (by omega),iO (by omega)];exact c};simp only[ranks];rw[aA D _ G]
 .have ec:cnt ⟨if x.stage=9 then 7 else x.stage,x.fuel,x.deaf⟩=cnt ⟨if(D i).stage=9 then 7 else(D i).stage,(D i).fuel,(D i).deaf⟩:=by simp only[cnt,h]
  have ev:Vc j (xd (upd D i x))=Vc j (xd D):=by rw[I,J];omega
  have es:jP j (upd D i x)=jP j D:=by simp only[jP];omega
  have er:ranks n (upd D i x) rk=ranks n D rk:=by funext k;simp only[ranks];by_cases e:k=i;{subst e;rw[ao,c]};rw[aA D _ e]
  rw[ev,es,er];refine aT _ (aT _ ?_);simp only[lZ];omega
end
section
variable [Payload] {P:ax} {ty:aQ} {o Wg C n:bn} {SB:Blocks} {jd:bn->Blocks->aG->ah->Prop} {K:aa->ah->Prop} {L0:bn} {w0:ah} {gs:eD aa} {w w':ah} {sl:gI (bn×bn)} {j:bn} {D:bn->WX} {q:bn->bn} {tag:Tag} {f0 d0:bn} {rk:Rank} {FM OM:Blocks} {a:aa} {t:aC}
theorem callerStep (jm:∀i F v w w1,jd i F v w->Ext F w w1->jd i F v w1) (ha:gs[0]?=ζ a) (c:iX P ty o Wg C n SB jd j gs w t D q d0) (S:Sep Wg C SB j D FM OM w) {tag':Tag} {f':bn} {DU:Rank} {Av Au:Blocks} {st' sm':gY} (x:aB P η a w=.go a' w' es)
  (xY:MS P ty Wg C n jd K tag' f' (az d0 es) DU Av Au a' w') (J:Sep Wg C SB j D Av Au w')
  (jK:∀i,i<j->Ext (D i).F w w'/\RW ty Wg C n 0 i w w') (U:w.heap.size<=w'.heap.size)
  (V:∀op∈aw 0 a.frame.fn a.frame.place es,Ok0 (ShP Wg SB) (tT o C j D) (RdD o j D) (o-1+j) op) (Y:∀e∈es,∀y,(al e).touch?=ζ y->y.loc.isMemory=η)
  (I:∀e∈es,e.loc≠.mark (.release (stA Wg))) (W:∀e∈es,p9 w'.heap.size (al e)) (oh:cj C n w')
  (fI:WgAt ty Wg w' st' sm') (M:Mo j (xd D) tag' st' sm') (z:JT n tag' j) (rD:Kept Wg C L0 w0 j D Au w')
  (N:psi n (Vc j (xd D)) tag'<psi n (Vc j (xd D)) tag\/(psi n (Vc j (xd D)) tag'=psi n (Vc j (xd D)) tag/\Rank.sub DU rk)\/(psi n (Vc j (xd D)) tag'=psi n (Vc j (xd D)) tag/\DU=rk/\f'<f0)):
  ∃G ops H,runT P (crowd gs w sl) 0=(.next G,ops)/\MLt (n+1) H (psi n (Vc j (xd D)) tag+jP j D,ranks n D rk,f0+2*lZ j D+2*sumTo o q)/\wz P ty o Wg C n SB jd K L0 w0 H G (t++ops):=by
 have eY:=c.xX;have Kc:=z.le;have R:=bp (P:=P) (sl:=sl) (i:=0) ha (show aB P (0==0) a w=_ from x);have Z:=c.step0 (fn:=a.frame.fn) (pos:=a.frame.place) jm S jK U V Y I W oh (a:=a) (a':=a');refine⟨_,_,_,R,?_,_,w',sl,j,D,q,tag',f',az d0 es,DU,Av,Au,a',st',sm',lc,bC _ _ _ (by rw[c.size];omega),xY,Z,J,fI,M,z,rD,lc⟩;rcases N with h|⟨m,p⟩|⟨m,p,h3⟩;{exact bj _ _ (by omega)};{rw[m];refine aT _ (bj _ _ ⟨n,by omega,by simp only[ranks,je];exact p,λk E=>?_⟩);simp only[ranks];rw[iO E,iO E]};rw[m,p];exact aT _ (aT _ (by omega))
theorem jb1 (ha:gs[0]?=ζ a) (U:MS P ty Wg C n jd K tag f0 d0 rk FM OM a w) (v:iX P ty o Wg C n SB jd j gs w t D q d0) (S:Sep Wg C SB j D FM OM w) (M:JT n tag j) (J:Kept Wg C L0 w0 j D OM w)
  {st sm:gY} (fI:WgAt ty Wg w st sm) (I:∀tag',(tag'=tag\/(tag=.blk/\tag'=.sm))->Mo j (xd D) tag' st sm) {k:bn} (y:0<k) (m:k<o) (x:gs[k]?=ζ g) (c:g.status=.running):
  ∃z ops E,runT P (crowd gs w sl) k=(.next z,ops)/\MLt (n+1) E (psi n (Vc j (xd D)) tag+jP j D,ranks n D rk,f0+2*lZ j D+2*sumTo o q)/\wz P ty o Wg C n SB jd K L0 w0 E z (t++ops):=by
 have h:=v.old k g y m x;cases SA:q k with
 |zero=>rw[SA]at h;rw[h.1]at c;cases c
 |succ q1=>
  rw[SA]at h;rcases h with⟨N,_⟩|⟨_,g',es,R,H,G⟩;{rw[N]at c;cases c};have V:=bp (P:=P) (sl:=sl) (i:=k) x (by rw[show(k==0)=θ from by simp;omega];exact H w);obtain⟨tag',f',W,yT,p,Y⟩:=U.wokenBy (zh w) g g';refine⟨_,_,_,V,?_,_,w,sl,j,D,upd q k q1,tag',f',d0,rk,FM,OM,woken P g g' w a,st,sm,lc,by rw[bk _ _ _ _ (by omega),ha];rfl,W,v.jc0 S y m R G,S,fI,I tag' p,M.retag p,J,lc⟩;rw[Xg n _ p];have Z:sumTo o (upd q k q1)+(q1+1)=sumTo o q+q1:=by have:=sumTo_upd q q1 id m;simpa[SA]using this
  exact aT _ (aT _ (by omega))
end
section
variable [Payload] {P:ax} {ty:aQ} {o Wg C n:bn} {SB:Blocks} {jd:bn->Blocks->aG->ah->Prop} {K:aa->ah->Prop} {L0:bn} {w0:ah} {gs:eD aa} {w w':ah} {sl:gI (bn×bn)} {j:bn} {D:bn->WX} {q:bn->bn} {tag:Tag} {f0 d0:bn} {rk:Rank} {FM OM:Blocks} {a:aa} {t:aC} {st sm:gY}
theorem ZE (x:w'.heap[Wg]?=w.heap[Wg]?) (c:w'.heap[C]?=w.heap[C]?):RW ty Wg C n 0 i w w':=
 ⟨λb y=>gF y (au b),λ⟨s,m,h⟩=>⟨s,m,by unfold WgAt at *; rw[x];exact h⟩,λ⟨cs,p,v⟩=>⟨cs,by rw[c];exact p,v⟩,cell_of_block c i⟩
omit [Payload] in
theorem Mo.congr {D D':bn->WD} {tag:Tag} (h:∀a,a<j->(D' a).stage=(D a).stage) (m:Mo j D tag st sm):Mo j D' tag st sm:=by
 have c:Vc j D'=Vc j D:=sumTo_congr λa ha=>by simp only[cnt,h a ha]
 cases m with
 |opn h1 h2 h3=>rw[<-c];exact .opn h1 (λa ha=>by rw[h a ha];exact h2 a ha) (λp e=>by rw[c];exact h3 p e)
 |reg h1 h2 h3=>rw[<-c];exact .reg h1 (λa ha=>by rw[h a ha];exact h2 a ha) (by rw[c];exact h3)
 |last L h1 h2 h3 h4=>rw[<-h L h2];exact .last L h1 h2 (by rw[h L h2];exact h3) (λa ha e=>by rw[h a ha];exact h4 a ha e)
 |sema h1 h2=>exact .sema h1 λa ha=>by rw[h a ha];exact h2 a ha
 |fin h1 h2=>exact .fin h1 λa ha=>by rw[h a ha];exact h2 a ha
omit [Payload] in
theorem Mo.retag {D:bn->WD} {tag tag':Tag} (h:Mo j D tag st sm) (e:tag'=tag\/(tag=.blk/\tag'=.sm)):Mo j D tag' st sm:=by
 rcases e with rfl|⟨rfl,rfl⟩;{exact h}
 .cases h with
  |opn h1 _ _=>exact h1.elim
  |reg _ h2 h3=>exact .reg trivial h2 h3
  |last L _ h2 h3 h4=>exact .last L trivial h2 h3 h4
  |sema h1 _=>rcases h1 with h1|h1<;>cases h1
  |fin h1 _=>exact h1.elim
omit [Payload] in
theorem QD {F O:Blocks} (h:EvF F O e) {y:Touch} (p:(al e).touch?=ζ y):y.loc.isMemory=η/\y.kind=.plain/\xJ F y.loc/\(y.write=η->xJ O y.loc):=by
 obtain⟨loc,wt,z⟩:=e;cases loc with
 |cell b=>obtain⟨c,v,x⟩:=h;have c:z=θ:=c;subst c;rw[cn]at p;simp only[aR,aI]at p;subst p;exact⟨lc,lc,v,x⟩
 |obj r=>
  obtain⟨c,v,x⟩:=h;have c:z=θ:=c;subst c;have E:al ⟨.obj r,wt,θ⟩=.access ⟨.obj r,wt,θ⟩:=by cases wt<;>rfl
  rw[E]at p;simp only[aR,aI]at p;subst p;exact⟨lc,lc,v,x⟩
 |mark m=>
  cases m with
  |noRoom=>simp[al,aR]at p
  |_=>exact h.elim
 |_=>exact h.elim
omit [Payload] in
theorem CY {F O:Blocks} (h:EvF F O e) (m:∀b,F b->b<B):e.loc≠.mark .disable/\e.loc≠.mark .enable/\e.loc≠.mark (.release (stA Wg))/\(al e).low B:=by have:=LZ (SB:=λ_=>fo) h (λ_ _ x=>x) m;refine⟨this.2.1,this.2.2.1,λc=>?_,this.2.2.2⟩;obtain⟨loc,wt,p⟩:=e;have c:loc=_:=c;subst c;exact h
end
section
variable [Payload] {P:ax} {ty:aQ} {o Wg C n:bn} {SB:Blocks} {jd:bn->Blocks->aG->ah->Prop} {K:aa->ah->Prop} {L0:bn} {w0:ah} {gs:eD aa} {w w':ah} {sl:gI (bn×bn)} {j:bn} {D:bn->WX} {q:bn->bn} {tag:Tag} {f0 d0:bn} {rk:Rank} {FM OM:Blocks} {a:aa} {t:aC} {st sm:gY}
omit [Payload] in
theorem Sep.stepW (S:Sep Wg C SB j D FM OM w) (Y:i<j) {x:WX} (I:w.heap.size<=w'.heap.size) (M:∀b,x.F b->(D i).F b\/w.heap.size<=b) (R:∀b,x.O b->(D i).O b\/w.heap.size<=b) (U:∀b,x.O b->x.F b) (W:∀b,x.F b->b<w'.heap.size):Sep Wg C SB j (upd D i x) FM OM w':=by have lW:=S.lW;have Z:=S.lC;refine⟨λm p b c=>?_,λm p b c=>?_,λJ N v z E b c y=>?_,λb c=>?_,λb c=>?_,xll S.lW I,xll S.lC I,λb c=>xll (S.lS b c) I,S.hCW,S.sW,S.sC⟩;{by_cases e:m=i;{subst e;rw[ao]at c;refine⟨W b c,?_⟩;rcases M b c with h|h;{exact(S.wF m p b h).2};exact⟨by omega,by omega,λV=>by have:=S.lS b V;omega⟩};rw[aA D _ e]at c;have:=S.wF m p b c;exact⟨by omega,this.2⟩};{by_cases e:m=i;{subst e;rw[ao]at c|-;exact U b c};rw[aA D _ e]at c|-;exact S.wO m p b c};{by_cases e1:J=i;{subst e1;rw[ao]at c;rw[aA D _ (λh=>E h.symm)]at y;rcases R b c with h|h;{exact S.apart _ _ v z E b h y};have:=(S.wF N z b y).1;omega};rw[aA D _ e1]at c;by_cases e2:N=i;{subst e2;rw[ao]at y;rcases M b y with h|h;{exact S.apart _ _ v z E b c h};have:=(S.wF J v b (S.wO J v b c)).1;omega};rw[aA D _ e2]at y;exact S.apart _ _ v z E b c y};{have:=S.mF b c;refine⟨by omega,this.2.1,this.2.2.1,this.2.2.2.1,λm p H=>?_⟩;by_cases e:m=i;{subst e;rw[ao]at H;rcases R b H with h|h;{exact this.2.2.2.2 m p h};omega};rw[aA D _ e]at H;exact this.2.2.2.2 m p H};have v:=S.mO b c;have z:=S.mF b v.1;refine⟨v.1,λm p G=>?_⟩;by_cases e:m=i;{subst e;rw[ao]at G;rcases M b G with h|h;{exact v.2 m p h};omega};rw[aA D _ e]at G;exact v.2 m p G
omit [Payload] in
theorem Kept.stepW (h:Kept Wg C L0 w0 j D OM w) {x:WX} (z:L0<=w.heap.size) (I:∀b,b<L0->w'.heap[b]?=w.heap[b]?) (J:∀b,x.O b->(D i).O b\/w.heap.size<=b) (E:w'.tape=w.tape) (m:w'.os=w.os) (H:w'.output=w.output) (G:NB w->NB w'):Kept Wg C L0 w0 j (upd D i x) OM w':=by refine⟨λb c=>(I b c).trans (h.keep b c),h.lW,h.lC,λp v b c=>?_,h.lM,E.trans h.tape,m.trans h.os,H.trans h.output,λx=>G (h.nb x)⟩;by_cases e:p=i;{subst e;rw[ao]at c;rcases J b c with y|y;{exact h.lO p v b y};omega};rw[aA D _ e]at c;exact h.lO p v b c
theorem jb3 (jm:∀i F v w w1,jd i F v w->Ext F w w1->jd i F v w1) (ha:gs[0]?=ζ a) (kP:MS P ty Wg C n jd K tag f0 d0 rk FM OM a w) (W:iX P ty o Wg C n SB jd j gs w t D q d0) (S:Sep Wg C SB j D FM OM w) (gq:JT n tag j) (H:Kept Wg C L0 w0 j D OM w)
  (fI:WgAt ty Wg w st sm) (eP:Mo j (xd D) tag st sm) (p:i<j) (hg:gs[o+i]?=ζ g) (Z:(D i).stage=9) (hd:(D i).deaf=0) {f:ah->Rank} (Aj:(D i).rank=.node f)
  (hw:WGo P θ (Gp P ty Wg C n jd i) (.node f) (D i).F (D i).O g w):
  ∃m₁ ops μ',runT P (crowd gs w sl) (o+i)=(.next m₁,ops)/\MLt (n+1) μ' (psi n (Vc j (xd D)) tag+jP j D,ranks n D rk,f0+2*lZ j D+2*sumTo o q)/\wz P ty o Wg C n SB jd K L0 w0 μ' m₁ (t++ops):=by
 obtain⟨V,J,g',w',es,R,m,oW⟩:=hw.2 w (Ext.refl ..);have U:=S.lW;have lC:=S.lC;have nO:∀b,(D i).O b->b≠Wg/\b≠C:=λb z=>⟨(S.wF i p b (S.wO i p b z)).2.1,(S.wF i p b (S.wO i p b z)).2.2.1⟩
 have hW:w'.heap[Wg]?=w.heap[Wg]?:=m.keep Wg U λh=>(nO Wg h).1 lc;have hC:w'.heap[C]?=w.heap[C]?:=m.keep C lC λh=>(nO C h).2 lc
 let x:WX:=⟨9,0,0,f w,V,J,(D i).val⟩
 have S':Sep Wg C SB j (upd D i x) FM OM w':=S.stepW p (x:=x) m.size m.new m.DZ m.own m.low;have iU:WgAt ty Wg w' st sm:=by unfold WgAt at *; rw[hW];exact fI
 refine workerStep jm ha kP W S gq H p hg R (x:=x) S' ⟨⟨m.size,λb z=>m.keep b (S.mF b z).1 ((S.mF b z).2.2.2.2 i p)⟩,λ_=>⟨_,_,iU⟩⟩
  (λi' Y fG=>⟨⟨m.size,λb z=>m.keep b (S.wF i' Y b z).1 λE=>S.apart i i' p Y (λe=>fG e.symm) b E z⟩,ZE hW hC⟩)
  (.own lc lc lc oW) m.size m.sub m.ZK m.new m.DZ (λe G y hy=>?_) (λe G=>(CY (m.ev e G) m.low).2.2.1) (λe G=>Ew (CY (Wg:=Wg) (m.ev e G) m.low).2.2.2)
  ?_ (λh=>gF (show 9<=6 from h) (by decide)) (λh=>gF (show 9<=6 from h) (by decide)) ?_ iU (λtag' ht _=>(eP.congr λa' _=>?_).retag ht) ?_ (κ (ι ⟨Z.symm,by rw[Aj];exact⟨w,lc⟩⟩))
 .obtain⟨M,N,I,h4⟩:=QD (m.ev e G) hy;refine⟨M,κ ⟨N,?_⟩⟩;by_cases E:xJ J y.loc;{exact ι ⟨i,p,lc,ι (by rw[ao];exact E)⟩}
  .refine κ ⟨⟨i,p,lc,?_⟩,by cases hyw:y.write with|false=>rfl|true=>exact gF (h4 hyw) E⟩;rw[ao];show xJ (λb=>V b/\¬J b) y.loc;generalize y.loc=l at I E;cases l with
   |cell c=>exact⟨I,E⟩
   |obj c=>exact⟨I,E⟩
   |_=>exact I.elim
 .rw[hd];exact deafBehind_idle (λe G=>⟨(CY (Wg:=Wg) (m.ev e G) m.low).1,(CY (Wg:=Wg) (m.ev e G) m.low).2.1⟩) 0
 .obtain⟨cs,M,N⟩:=W.pay;exact⟨cs,by rw[hC];exact M,N⟩
 .by_cases e:a'=i;{subst e;simp only[xd,ao,Z,x]};simp only[xd];rw[aA D _ e]
 .exact H.stepW (x:=x) (xlt H.lW (cu U)) (λb z=>m.keep b (xll z (xlt H.lW (cu U))) λE=>by have:=H.lO i p b E;omega) m.DZ m.tape m.os m.output m.nb
end
end
section
open Go Go.Conc Go.ConcN Sim
open Go.ConcR (KK WgAt stA smA rd wr mk Payload DC0 g_of_ofEvents Bk bk_of_mute ofEvent_loc_mark ofEvent_cell)
section
variable [Payload] {C n i:bn} {w:ah}
theorem qpw (E:cj C n w) (v:aG):AsideCell C n i w (w.setCell ⟨C,i,ε⟩ v):=by
 have h:=aP w ⟨C,i,ε⟩ v;obtain⟨c,m,z⟩:=E;have p:(w.setCell ⟨C,i,ε⟩ v).heap[C]?=ζ (.cells (c.setIfInBounds i v) Payload.ety):=by rw[cx w C i c _ (0,0) _ m,setRow_heap w C _ _ _ _ m]
 refine⟨h.tape,h.os,h.output,h.size,λb x=>h.block b x,λ_=>⟨_,p,by simpa using z⟩,λG y=>?_⟩;simp[World.cell?,p,m,xne (ce y)]
theorem ja6 (y:cj C n w) (x:i<n) (v:aG):Has C i v (w.setCell ⟨C,i,ε⟩ v):=by
 obtain⟨c,h,m⟩:=y;have p:(w.setCell ⟨C,i,ε⟩ v).heap[C]?=ζ (.cells (c.setIfInBounds i v) Payload.ety):=by rw[cx w C i c _ (0,0) _ h,setRow_heap w C _ _ _ _ h]
 simp[Has,World.cell?,p,m,x]
omit [Payload] in
theorem jbj (m:Wg<B) (h:Bk Wg e):p9 B (al e):=by intro y c;rcases h with h1|h1|⟨a,wr,rfl,ha⟩;{rw[ofEvent_loc_mark h1]at c;cases c};{rw[ofEvent_loc_mark h1]at c;cases c};rw[ofEvent_cell]at c;simp only[aR,aI]at c;subst c;show a.block<B;omega
end
section
variable [Payload] {P:ax} {ty:aQ} {o Wg C n:bn} {SB:Blocks} {jd:bn->Blocks->aG->ah->Prop} {K:aa->ah->Prop} {L0:bn} {w0:ah} {gs:eD aa} {w w':ah} {sl:gI (bn×bn)} {j:bn} {D:bn->WX} {q:bn->bn} {tag:Tag} {f0 d0:bn} {rk:Rank} {FM OM:Blocks} {a:aa} {t:aC} {st sm:gY}
omit [Payload] in
theorem Sep.same (S:Sep Wg C SB j D FM OM w) (h:i<j) {x:WX} (hF:x.F=(D i).F) (m:x.O=(D i).O) (p:w.heap.size<=w'.heap.size):Sep Wg C SB j (upd D i x) FM OM w':=
 S.stepW h p (λb c=>ι (hF▸c)) (λb c=>ι (m▸c)) (λb c=>by rw[hF];rw[m]at c;exact S.wO i h b c) (λb c=>by rw[hF]at c;have:=(S.wF i h b c).1;omega)
theorem q2w (jm:∀i F v w w1,jd i F v w->Ext F w w1->jd i F v w1) (ha:gs[0]?=ζ a) (kP:MS P ty Wg C n jd K tag f0 d0 rk FM OM a w) (G:iX P ty o Wg C n SB jd j gs w t D q d0) (S:Sep Wg C SB j D FM OM w) (gq:JT n tag j) (I:Kept Wg C L0 w0 j D OM w)
  (fI:WgAt ty Wg w st sm) (eP:Mo j (xd D) tag st sm) (M:i<j) (hg:gs[o+i]?=ζ g) (R:(D i).stage=9) (hd:(D i).deaf=0)
  (hs:Gp P ty Wg C n jd i (D i).F (D i).O g w):
  ∃Y ops Z,runT P (crowd gs w sl) (o+i)=(.next Y,ops)/\MLt (n+1) Z (psi n (Vc j (xd D)) tag+jP j D,ranks n D rk,f0+2*lZ j D+2*sumTo o q)/\wz P ty o Wg C n SB jd K L0 w0 Z Y (t++ops):=by
 obtain⟨_,v,qM,hx⟩:=hs;obtain⟨g',U,m,hk⟩:=hx w (Ext.refl ..) G.pay ⟨_,_,fI⟩;have lW:=S.lW;have lC:=S.lC;have c:AsideCell C n i w (w.setCell ⟨C,i,ε⟩ v):=qpw G.pay v
 let x:WX:=⟨7,m,0,.leaf,(D i).F,(D i).O,v⟩
 have S':Sep Wg C SB j (upd D i x) FM OM (w.setCell ⟨C,i,ε⟩ v):=S.same M (x:=x) lc lc (by rw[c.size];exact jg _);have W:WgAt ty Wg (w.setCell ⟨C,i,ε⟩ v) st sm:=fI.of_block (c.block Wg (ce S.hCW));have V:∀{F:Blocks},¬F C->Ext F w (w.setCell ⟨C,i,ε⟩ v):=λhn=>⟨by rw[c.size];exact jg _,λb J=>c.block b λe=>hn (e▸J)⟩
 have H:∀E,E<j->¬(D E).F C:=λE N h=>(S.wF E N C h).2.2.1 lc;refine workerStep jm ha kP G S gq I M hg U (x:=x) S' ⟨V λh=>(S.mF C h).2.2.1 lc,λ_=>⟨_,_,W⟩⟩
  (λE N fG=>⟨V (H E N),RW.of_cell c fG S.hCW⟩)
  (.lib (.r0 hk) (jm _ _ _ _ _ qM (V (H i M)))) (by rw[c.size];exact jg _) (λ_ h=>h) (λ_ h=>h) (λ_ h=>ι h) (λ_ h=>ι h) (λe p y z=>?_) (λe p=>?_) (λe p y z=>?_)
  ?_ (λh=>gF (show 7<=6 from h) (by decide)) (λh=>gF (show 7<=6 from h) (by decide)) (c.pay G.pay) W (λtag' ht _=>(eP.congr λa' _=>?_).retag ht) ?_ (ι ⟨by rw[R];exact(by decide:7<9),?_⟩)
 .simp only[aZ,bh]at p;subst p;rw[cn]at z;simp only[aR,aI]at z;subst z;exact⟨lc,κ ⟨lc,ι ⟨i,M,lc,κ lc⟩⟩⟩
 .simp only[aZ,bh]at p;subst p;simp
 .simp only[aZ,bh]at p;subst p;rw[cn]at z;simp only[aR,aI]at z;subst z;show C<_;rw[c.size];exact lC
 .rw[hd];rfl
 .by_cases e:a'=i;{subst e;simp only[xd,ao,R,x];decide};simp only[xd];rw[aA D _ e]
 .refine I.stepW (x:=x) (xlt I.lW (cu lW)) (λb J=>c.block b λe=>?_) (λb J=>ι J) c.tape c.os c.output (Nn c.block (let⟨_,h,_⟩:=c.pay G.pay;⟨_,_,_,h⟩));have:=I.lC;omega
 .simp only[xd,ao,R,x];simp[cnt]
end
theorem LQ (D:bn->WX) (i:bn) (x:WX):xd (upd D i x)=upd (xd D) i ⟨if x.stage=9 then 7 else x.stage,x.fuel,x.deaf⟩:=by funext k;by_cases e:k=i;{subst e;simp only[xd,ao]};rw[aA (xd D) _ e];simp only[xd];rw[aA D _ e]
theorem JT.bound {tag:Tag} (h:JT n tag j):j+nM tag<=n:=by cases tag<;>simp only[JT,nM]at h|-<;>omega
section
variable {j i:bn} {D:bn->WD} {tag:Tag} {st sm:gY}
theorem Mo.same (c:Mo j D tag st sm) (m' h:bn):Mo j (upd D i ⟨(D i).stage,m',h⟩) tag st sm:=
 c.congr λa _=>by by_cases e:a=i;{subst e;rw[ao]};rw[aA D _ e]
theorem Mo.counted (z:Mo j D tag st sm) (m:i<j) (y:5<=(D i).stage) {s':bn} (x:s'=6\/s'=5) (m' c:bn):Mo j (upd D i ⟨s',m',c⟩) tag st sm:=by
 have p:Vc j (upd D i ⟨s',m',c⟩)=Vc j D:=by
  have:=Vc_upd D (⟨s',m',c⟩:WD) m;have c1:cnt (D i)=1:=by simp[cnt,y]
  have c2:cnt (⟨s',m',c⟩:WD)=1:=by rcases x with rfl|rfl<;>simp[cnt]
  omega
 have v:OpenSt j D->OpenSt j (upd D i ⟨s',m',c⟩):=λh a ha=>by by_cases e:a=i;{subst e;rw[ao];rcases x with rfl|rfl<;>simp};rw[aA D _ e];exact h a ha
 cases z with
 |opn h1 h2 h3=>rw[<-p];exact .opn h1 (v h2) (λE e=>by rw[p];exact h3 E e)
 |reg h1 h2 h3=>rw[<-p];exact .reg h1 (v h2) (by rw[p];exact h3)
 |last L h1 h2 h3 h4=>by_cases e:i=L;{subst e;omega};have:=h4 i m e;omega
 |sema _ h2=>have:=h2 i m;omega
 |fin h1 h2=>have:=h2 i m;omega
theorem Mo.isLast (m:Mo j D tag st sm) (c:i<j) (h:(D i).stage=4\/(D i).stage=3\/(D i).stage=2):
  Ri tag/\(∀a,a<j->a≠i->(D a).stage=1)/\st=(if(D i).stage=2 then 0 else 1)/\sm=0:=by
 cases m with
 |opn _ h2 _=>have:=h2 i c;omega
 |reg _ h2 _=>have:=h2 i c;omega
 |last L h1 h2 h3 h4=>by_cases e:i=L;{subst e;exact⟨h1,h4,lc,lc⟩};have:=h4 i c e;omega
 |sema _ h2=>have:=h2 i c;omega
 |fin _ h2=>have:=h2 i c;omega
end
section
variable [Payload] {P:ax} {ty:aQ} {o Wg C n:bn} {SB:Blocks} {jd:bn->Blocks->aG->ah->Prop} {K:aa->ah->Prop} {L0:bn} {w0:ah} {gs:eD aa} {w w':ah} {sl:gI (bn×bn)} {j:bn} {D:bn->WX} {q:bn->bn} {tag:Tag} {f0 d0:bn} {rk:Rank} {FM OM:Blocks} {a:aa} {t:aC} {st sm:gY}
omit [Payload] in
theorem q23 {x:bG} (h:Bk Wg x) {y:Touch} (c:(al x).touch?=ζ y):y.loc.isMemory=η/\ShP Wg SB y.loc/\y.kind=.atomic:=by rcases h with h1|h1|⟨b,wr,rfl,m⟩;{rw[ofEvent_loc_mark h1]at c;cases c};{rw[ofEvent_loc_mark h1]at c;cases c};rw[ofEvent_cell]at c;simp only[aR,aI]at c;subst c;exact⟨lc,⟨b,lc,κ m⟩,lc⟩
theorem jbh (jm:∀i F v w w1,jd i F v w->Ext F w w1->jd i F v w1) (hn:n<2147483648) (ha:gs[0]?=ζ a) (kP:MS P ty Wg C n jd K tag f0 d0 rk FM OM a w) (V:iX P ty o Wg C n SB jd j gs w t D q d0) (S:Sep Wg C SB j D FM OM w) (gq:JT n tag j) (fE:Kept Wg C L0 w0 j D OM w)
  (fI:WgAt ty Wg w st sm) (eP:Mo j (xd D) tag st sm) (E:i<j) (hg:gs[o+i]?=ζ g) (fA:g.status=.running)
  (hs:WSit P ty Wg C n tC tC 0 (i+1) (D i).val (D i).stage (D i).fuel (D i).deaf g w) (qM:jd i (D i).F (D i).val w):
  ∃m₁ ops μ',runT P (crowd gs w sl) (o+i)=(.next m₁,ops)/\MLt (n+1) μ' (psi n (Vc j (xd D)) tag+jP j D,ranks n D rk,f0+2*lZ j D+2*sumTo o q)/\wz P ty o Wg C n SB jd K L0 w0 μ' m₁ (t++ops):=by
 have lW:=S.lW;have lC:=S.lC;have Z:=S.hCW;have eY:=V.xX;have hb:=gq.bound;have OA:=Vc_le j (xd D);have kL:=fE.lW;have kC:=fE.lC;have mW:¬FM Wg:=λh=>(S.mF Wg h).2.1 lc;have mC:¬FM C:=λh=>(S.mF C h).2.2.1 lc;have wW:∀H,H<j->¬(D H).F Wg:=λH h' h=>(S.wF H h' Wg h).2.1 lc;have wC:∀H,H<j->¬(D H).F C:=λH h' h=>(S.wF H h' C h).2.2.1 lc;generalize hst:(D i).stage=s at hs;generalize SX:(D i).fuel=m at hs;generalize Kl:(D i).deaf=dd at hs;have hdk:Deaf t (o+i)=dd:=by rw[V.deafW i E,Kl]
 have xs9:s≠9:=by rintro rfl;cases hs
 have Aw:(xd D i).stage=s:=by simp only[xd,hst];rw[iO xs9]
 have xfu:(xd D i).fuel=m:=SX;have xde:(xd D i).deaf=dd:=Kl
 -- A Vd OF THE Ig DN:at most the OZ block turns
 have DL:∀{g':aa} {w':ah} {es:eD bG} {s' z M:bn} {st' sm':gY},aB P θ g w=.go g' w' es->Aside Wg w w'->WgAt ty Wg w' st' sm'->(∀e∈es,Bk Wg e)->
   (∀jx e,es[jx]?=ζ e->(al e).touch?=ε\/0<az dd (es.extract 0 jx))->WSit P ty Wg C n tC tC 0 (i+1) (D i).val s' z M g' w'->az dd es=M->s<=6->s'<=7->
   (∀tag',(tag'=tag\/(tag=.blk/\tag'=.sm))->(mayWake P g=η->g'.status=.running->tag'≠.blk)->Mo j (upd (xd D) i ⟨s',z,M⟩) tag' st' sm')->((s'<s/\cnt ⟨s',z,M⟩<=cnt (xd D i))\/(s'=s/\z+1=m))->
   ∃m₁ ops μ',runT P (crowd gs w sl) (o+i)=(.next m₁,ops)/\MLt (n+1) μ' (psi n (Vc j (xd D)) tag+jP j D,ranks n D rk,f0+2*lZ j D+2*sumTo o q)/\wz P ty o Wg C n SB jd K L0 w0 μ' m₁ (t++ops):=by
  intro g' w' es s' z M st' sm' p R iU Aq hd pM o7 h6 h7 oG eZ;obtain⟨cs,UJ,UI⟩:=V.pay;have fC:w.heap.size<=w'.heap.size:=by rw[R.size];exact jg _
  have oq:∀{F:Blocks},¬F Wg->Ext F w w':=λhn=>⟨fC,λb hb=>R.block b λe=>hn (e▸hb)⟩
  let x:WX:=⟨s',z,M,(D i).rank,(D i).F,(D i).O,(D i).val⟩
  have ex:xd (upd D i x)=upd (xd D) i ⟨s',z,M⟩:=by rw[LQ];show upd (xd D) i (⟨if s'=9 then 7 else s',z,M⟩:WD)=_;rw[iO (by omega)]
  refine workerStep jm ha kP V S gq fE E hg p (x:=x) (S.same E lc lc fC) ⟨oq mW,λ_=>⟨_,_,iU⟩⟩ (λH gm fG=>⟨oq (wW H gm),RW.of_wg R ⟨_,_,iU⟩ Z⟩)
   (.lib pM (jm _ _ _ _ _ qM (oq (wW i E)))) fC (λ_ h=>h) (λ_ h=>h) (λ_ h=>ι h) (λ_ h=>ι h)
   (λe c y hy=>let⟨h1,G,h3⟩:=q23 (Aq e c) hy;⟨h1,ι ⟨G,h3⟩⟩) (λe c=>(norel_of_Bk Aq) e c) (λe c=>jbj (by omega) (Aq e c))
   (by rw[Kl];exact o7) (λ_=>let⟨r,hr⟩:=V.rel i E (by omega);⟨r,hr.book hdk _ _ Aq hd⟩) (λ_=>(cell_of_block (R.block C Z) i).trans (V.has i E (by omega))) ⟨cs,(R.block C Z).trans UJ,UI⟩ iU
   (λtag' ht hw=>by rw[ex];exact oG tag' ht hw) (fE.stepW (by omega) (λb hb=>R.block b (by omega)) (λ_ h=>ι h) R.tape R.os R.output (Nn R.block ⟨_,_,_,iU⟩)) ?_
  rcases eZ with⟨h1,G⟩|⟨h1,G⟩;{refine ι ⟨by rw[hst];exact h1,?_⟩;rw[ex,ao];exact G};exact κ (κ ⟨by rw[hst];exact h1,lc,by rw[SX];exact G⟩)
 have book:∀{g':aa} {w':ah} {es:eD bG} {s' z M:bn} {st' sm':gY},aB P θ g w=.go g' w' es->Aside Wg w w'->WgAt ty Wg w' st' sm'->(∀e∈es,Bk Wg e)->
   (∀jx e,es[jx]?=ζ e->(al e).touch?=ε\/0<az dd (es.extract 0 jx))->WSit P ty Wg C n tC tC 0 (i+1) (D i).val s' z M g' w'->az dd es=M->s<=6->s'<=7->
   Mo j (upd (xd D) i ⟨s',z,M⟩) tag st' sm'->((s'<s/\cnt ⟨s',z,M⟩<=cnt (xd D i))\/(s'=s/\z+1=m))->
   ∃m₁ ops μ',runT P (crowd gs w sl) (o+i)=(.next m₁,ops)/\MLt (n+1) μ' (psi n (Vc j (xd D)) tag+jP j D,ranks n D rk,f0+2*lZ j D+2*sumTo o q)/\wz P ty o Wg C n SB jd K L0 w0 μ' m₁ (t++ops):=
  λp R iU Aq hd pM o7 h6 h7 oG eZ=>DL p R iU Aq hd pM o7 h6 h7 (λ_ ht _=>oG.retag ht) eZ
 -- AN IDLE Vd Vg THE O0:nothing turns,nothing is listed
 have idle:∀{g':aa} {z:bn},aB P θ g w=.go g' w #[]->WSit P ty Wg C n tC tC 0 (i+1) (D i).val s z dd g' w->z+1=m->s<=6->
   ∃m₁ ops μ',runT P (crowd gs w sl) (o+i)=(.next m₁,ops)/\MLt (n+1) μ' (psi n (Vc j (xd D)) tag+jP j D,ranks n D rk,f0+2*lZ j D+2*sumTo o q)/\wz P ty o Wg C n SB jd K L0 w0 μ' m₁ (t++ops):=by
  intro g' z p pM hm h6;exact book p (.refl Wg w) fI (by simp) (by simp) pM lc h6 (by omega) (by have:=eP.same (i:=i) z dd;rwa [Aw]at this) (κ ⟨lc,hm⟩)
 cases hs with
 |r0 h=>
  rcases aD h with W|⟨z,rfl,I⟩
  .obtain⟨_,iV,g',p,m₂,N⟩:=W w (bm w)
   let x:WX:=⟨6,m₂,0,(D i).rank,(D i).F,(D i).O,(D i).val⟩
   have ex:xd (upd D i x)=upd (xd D) i ⟨6,m₂,0⟩:=by rw[LQ];rfl
   refine workerStep jm ha kP V S gq fE E hg p (x:=x) (S.same E lc lc (jg _)) (zh w) (λH gm fG=>⟨Ext.refl ..,bm w⟩)
    (.lib (.k1 N) qM) (jg _) (λ_ h=>h) (λ_ h=>h) (λ_ h=>ι h) (λ_ h=>ι h)
    (λe c y hy=>by simp at c;subst c;cases hy) (λe c=>by simp at c;subst c;simp[mk]) (λe c y hy=>by simp at c;subst c;cases hy)
    (by rw[Kl];rfl) (λ_=>⟨t.size,RelBy.new hdk _ _⟩) (λ_=>by simpa using iV) V.pay fI
    (λtag' ht hw=>by rw[ex];exact(eP.counted E (by omega) (ι lc) _ _).retag ht) (fE.stepW (by omega) (λ_ _=>lc) (λ_ h=>ι h) lc lc lc id) (ι ⟨by rw[hst];exact(by decide:6<7),?_⟩)
   rw[ex,ao];simp[cnt,Aw]
  .obtain⟨g',w',es,p,⟨U,iH⟩,Y⟩:=I w (bm w);simp only[Nat.add_sub_cancel]at U;have fC:w.heap.size<=w'.heap.size:=by rw[U.size];exact jg _
   have oq:∀{F:Blocks},¬F C->Ext F w w':=λhn=>⟨fC,λb hb=>U.block b λe=>hn (e▸hb)⟩
   have iU:WgAt ty Wg w' st sm:=fI.of_block (U.block Wg (ce Z));have Vm:∀e∈es,∀y,(al e).touch?=ζ y->∃b,y.loc=.cell b/\b.block=Wg/\y.kind=.atomic:=λe c y hy=>by
    rcases((iH e c).1 (0:bn) "").2 y hy with⟨⟨b,h1,G⟩,h3,h4⟩|h1|⟨h1,_⟩
    .refine⟨b,h1,G,?_⟩;cases N:y.kind with
     |atomic=>rfl
     |plain=>exact gF N h3
     |said=>exact gF N h4
    .exact h1.elim
    .exact h1.elim
   let x:WX:=⟨7,z,0,(D i).rank,(D i).F,(D i).O,(D i).val⟩
   have ex:xd (upd D i x)=upd (xd D) i ⟨7,z,0⟩:=by rw[LQ];rfl
   refine workerStep jm ha kP V S gq fE E hg p (x:=x) (S.same E lc lc fC) ⟨oq mC,λ_=>⟨_,_,iU⟩⟩ (λH gm fG=>⟨oq (wC H gm),RW.of_cell U fG Z⟩)
    (.lib (.r0 Y) (jm _ _ _ _ _ qM (oq (wC i E)))) fC (λ_ h=>h) (λ_ h=>h) (λ_ h=>ι h) (λ_ h=>ι h)
    (λe c y hy=>?_) (λe c=>(iH e c).2.2.2) (λe c y hy=>?_)
    (by rw[Kl];exact deafBehind_idle (λe c=>⟨(iH e c).2.1,(iH e c).2.2.1⟩) 0) (λh=>gF (show 7<=6 from h) (by decide)) (λh=>gF (show 7<=6 from h) (by decide)) (U.pay V.pay) iU
    (λtag' ht hw=>by rw[ex];exact Mo.retag (by have:=eP.same (i:=i) z 0;rwa [Aw]at this) ht) (fE.stepW (by omega) (λb hb=>U.block b (by omega)) (λ_ h=>ι h) U.tape U.os U.output (Nn U.block (let⟨_,h,_⟩:=U.pay V.pay;⟨_,_,_,h⟩)))
    (κ (κ ⟨hst.symm,lc,SX.symm⟩))
   .obtain⟨b,h1,G,h3⟩:=Vm e c y hy;rw[h1];exact⟨lc,ι ⟨⟨b,lc,κ G⟩,h3⟩⟩
   .obtain⟨b,h1,G,h3⟩:=Vm e c y hy;rw[h1];show b.block<_;omega
 |k1 h=>
  rcases aD h with W|⟨z,rfl,I⟩
  .obtain⟨_,g',p,m₂,N⟩:=W w (bm w);exact book p (.refl Wg w) fI (by intro e c;simp at c;subst c;exact ι lc) (by intro jx e c;exact ι (by have:=aV c;simp at this;subst this;rfl)) (.d1 N) lc (by omega) (by omega)
    (eP.counted E (by omega) (κ lc) _ _) (ι ⟨by omega,by simp[cnt,Aw]⟩)
  .obtain⟨g',w',es,p,⟨rfl,rfl⟩,Y⟩:=I w (bm w);exact idle p (.k1 Y) lc (by omega)
 |d1 h=>
  rcases aD h with W|⟨z,rfl,I⟩
  .obtain⟨_,gu⟩:=W w (bm w);have mX:cnt (xd D i)=1:=by simp[cnt,Aw]
   have hV1:1<=Vc j (xd D):=by have:=le_sumTo (f:=λx=>cnt (xd D x)) E;simp only[Vc];omega
   have bk2:∀e∈#[rd (stA Wg),wr (stA Wg)],Bk Wg e:=by intro e c;simp at c;rcases c with rfl|rfl<;>exact bk_cell _ _ lc
   have TF:∀jx e,(#[rd (stA Wg),wr (stA Wg)]:eD bG)[jx]?=ζ e->(al e).touch?=ε\/0<az 1 ((#[rd (stA Wg),wr (stA Wg)]:eD bG).extract 0 jx):=by
    intro jx e c;match jx,c with
    |0,_=>exact κ (by simp[az])
    |1,_=>exact κ (by simp[az,rd])
    |jx+2,c=>simp at c
   have hq0:∀q,cnt (⟨1,q,1⟩:WD)=0:=λ_=>lc;have ZH:∀q,OpenSt j (xd D)->OpenSt j (upd (xd D) i ⟨1,q,1⟩):=λq h a ha=>by by_cases e:a=i;{subst e;rw[ao];simp};rw[aA (xd D) _ e];exact h a ha
   cases eP with
   |opn h1 G h3=>
    obtain⟨v,hv⟩:∃v,Vc j (xd D)+nM tag=v+1:=⟨Vc j (xd D)+nM tag-1,by omega⟩
    rw[hv]at fI;have oV:WgAt ty Wg w (((v:bn)+1)*KK+((0:bn):gY)) 0:=by simpa using fI
    obtain⟨g',p,_,J⟩:=gu v 0 (by omega) (by omega) oV;obtain⟨q,J⟩:=J (by omega);have ET:Vc j (upd (xd D) i ⟨1,q,1⟩)+nM tag=v:=by have:=Vc_upd (xd D) (⟨1,q,1⟩:WD) E;have:=hq0 q;omega
    refine book p (aP w (stA Wg) _) (fI.setSt _) bk2 TF (.quit J) lc (by omega) (by omega) ?_ (ι ⟨by omega,by simp[cnt]⟩);have e:((v:bn):gY)*KK+((0:bn):gY)=((Vc j (upd (xd D) i ⟨1,q,1⟩)+nM tag:bn):gY)*KK:=by rw[ET];simp
    rw[e];exact .opn h1 (ZH q G) (λvs ev=>by have:=h3 vs ev;omega)
   |reg h1 G h3=>
    obtain⟨v,hv⟩:∃v,Vc j (xd D)=v+1:=⟨Vc j (xd D)-1,by omega⟩
    rw[hv]at fI;have hp:nM tag=0:=by cases tag<;>first|rfl|exact h1.elim
    have oV:WgAt ty Wg w (((v:bn)+1)*KK+((1:bn):gY)) 0:=by simpa using fI
    obtain⟨g',p,hl,J⟩:=gu v 1 (by omega) (by omega) oV;by_cases Df:v=0
    .subst Df;obtain⟨m₂,N⟩:=hl ⟨lc,lc⟩;refine book p (aP w (stA Wg) _) (fI.setSt _) bk2 TF (.d2 N) lc (by omega) (by omega) ?_ (ι ⟨by omega,by simp[cnt]⟩);have jK:∀a,a<j->a≠i->(xd D a).stage=1:=λa ha e=>by have c0:=others_uncounted E hv mX a ha e;have:=G a ha;simp only[cnt]at c0;split at c0<;>omega
     have:=Mo.last (j:=j) (D:=upd (xd D) i ⟨4,m₂,1⟩) (tag:=tag) i h1 E (by rw[ao];simp) (λa ha e=>by rw[aA (xd D) _ e];exact jK a ha e);rw[ao]at this;simpa using this
    .obtain⟨q,J⟩:=J (by omega);have ET:Vc j (upd (xd D) i ⟨1,q,1⟩)=v:=by have:=Vc_upd (xd D) (⟨1,q,1⟩:WD) E;have:=hq0 q;omega
     refine book p (aP w (stA Wg) _) (fI.setSt _) bk2 TF (.quit J) lc (by omega) (by omega) ?_ (ι ⟨by omega,by simp[cnt]⟩);have e:((v:bn):gY)*KK+((1:bn):gY)=((Vc j (upd (xd D) i ⟨1,q,1⟩):bn):gY)*KK+1:=by rw[ET];simp
     rw[e];exact .reg h1 (ZH q G) (by omega)
   |last L _ G h3 h4=>by_cases e:i=L;{subst e;omega};have:=h4 i E e;omega
   |sema _ G=>have:=G i E;omega
   |fin _ G=>have:=G i E;omega
  .obtain⟨g',w',es,p,⟨rfl,rfl⟩,Y⟩:=I w (bm w);exact idle p (.d1 Y) lc (by omega)
 |d2 h=>rcases aD h with W|⟨z,rfl,I⟩;{obtain⟨_,hx⟩:=W w (bm w);obtain⟨Ku,jK,rfl,rfl⟩:=eP.isLast E (by omega);simp only[Aw]at fI;obtain⟨g',p,m₂,N⟩:=hx (by simpa using fI);refine book p (.refl Wg w) fI (by intro e c;simp at c;subst c;exact bk_cell _ _ lc) (by intro jx e c;match jx,c with|0,_=>exact κ (by simp[az])|jx+1,c=>simp at c) (.d3 N) lc (by omega) (by omega) ?_ (ι ⟨by omega,by simp[cnt]⟩);have:=Mo.last (j:=j) (D:=upd (xd D) i ⟨3,m₂,1⟩) (tag:=tag) i Ku E (by rw[ao];simp) (λa ha e=>by rw[aA (xd D) _ e];exact jK a ha e);rw[ao]at this;simpa using this};obtain⟨g',w',es,p,⟨rfl,rfl⟩,Y⟩:=I w (bm w);exact idle p (.d2 Y) lc (by omega)
 |d3 h=>rcases aD h with W|⟨z,rfl,I⟩;{obtain⟨_,hx⟩:=W w (bm w);obtain⟨Ku,jK,rfl,rfl⟩:=eP.isLast E (by omega);simp only[Aw]at fI;obtain⟨g',p,m₂,N⟩:=hx (by simpa using fI);refine book p (aP w (stA Wg) _) (fI.setSt 0) (by intro e c;simp at c;subst c;exact bk_cell _ _ lc) (by intro jx e c;match jx,c with|0,_=>exact κ (by simp[az])|jx+1,c=>simp at c) (.d4 N) lc (by omega) (by omega) ?_ (ι ⟨by omega,by simp[cnt]⟩);have:=Mo.last (j:=j) (D:=upd (xd D) i ⟨2,m₂,1⟩) (tag:=tag) i Ku E (by rw[ao];simp) (λa ha e=>by rw[aA (xd D) _ e];exact jK a ha e);rw[ao]at this;simpa using this};obtain⟨g',w',es,p,⟨rfl,rfl⟩,Y⟩:=I w (bm w);exact idle p (.d3 Y) lc (by omega)
 |d4 h=>
  rcases aD h with W|⟨z,rfl,I⟩
  .obtain⟨_,hmw,hx⟩:=W w (bm w);obtain⟨Ku,jK,rfl,rfl⟩:=eP.isLast E (by omega);simp only[Aw]at fI;obtain⟨g',p,q,J⟩:=hx (by simpa using fI);have vZ:g'.status=.running:=by
    cases q with
    |zero=>exact gF J.2 (by decide)
    |succ q=>exact J.elim (λx=>gF x.2 (by decide)) (λx=>x.1)
   refine DL p (aP w (smA Wg) _) (fI.setSm 1) (es:=semEvents (smA Wg)) bk_sem ?_ (.quit J) (by simp[az,semEvents]) (by omega) (by omega) ?_ (ι ⟨by omega,by simp[cnt]⟩)
   .intro jx e c;match jx,c with
    |0,c=>simp[semEvents]at c;subst c;exact ι lc
    |1,_=>exact κ (by simp[az,semEvents])
    |2,_=>exact κ (by simp[az,semEvents])
    |3,c=>simp[semEvents]at c;subst c;exact ι lc
    |jx+4,c=>simp[semEvents]at c
   .intro tag' ht hw;have mD:=hw hmw vZ;have e3:tag'=.sm\/tag'=.ws:=by rcases ht with rfl|⟨_,rfl⟩;{cases tag'<;>first|exact ι lc|exact κ lc|exact Ku.elim|exact gF lc mD};exact ι lc
    have EX:AllQuit j (upd (xd D) i ⟨1,q,1⟩):=λa ha=>by by_cases e:a=i;{subst e;rw[ao]};rw[aA (xd D) _ e];exact jK a ha e
    simp only[je];exact .sema e3.symm EX
  .obtain⟨g',w',es,p,⟨rfl,rfl⟩,Y⟩:=I w (bm w);exact idle p (.d4 Y) lc (by omega)
 |quit h=>
  cases m with
  |zero=>rw[h.1]at fA;cases fA
  |succ q=>rcases h with⟨hf,_⟩|⟨_,g',es,DJ,I,J⟩;{rw[hf]at fA;cases fA};have Aq:∀e∈es,Bk Wg e:=λe c=>bk_of_mute (DJ e c);have fO:∀jx e,es[jx]?=ζ e->(al e).touch?=ε\/0<az dd (es.extract 0 jx):=λjx e c=>ι (touch_mute (DJ e (aV c)));exact book (I w) (.refl Wg w) fI Aq fO (.quit J) lc (by omega) (by omega) (by have:=eP.same (i:=i) q (az dd es);rwa [Aw]at this) (κ ⟨lc,lc⟩)
end
end
section
open Go Go.Conc Go.ConcN Sim
open Go.ConcN.Gen (ev0_said_read ev0_said_write)
open Go.ConcR (KK WgAt stA smA rd wr mk Payload DC0 g_of_ofEvents Bk bk_of_mute ofEvent_loc_mark ofEvent_cell)
theorem MLt.lt1 {N:bn} {a b c:Mea} (h:MLt N a b) (k:b.1<c.1):MLt N a c:=by obtain⟨m,p⟩:=a;obtain⟨v,x⟩:=b;obtain⟨c1,c2⟩:=c;simp only at k;rcases Prod.lex_def.1 h with h|⟨h,_⟩;{simp only at h;exact bj _ _ (by omega)};simp only at h;exact bj _ _ (by omega)
section
variable [Payload] (P:ax) (ty:aQ) (o Wg C n:bn) (SB:Blocks) (jd:bn->Blocks->aG->ah->Prop) (K:aa->ah->Prop) (L0:bn) (w0:ah)
def Out (gs:eD aa) (w:ah) (sl:gI (bn×bn)) (t:aC) (k:bn) (μ:Mea):Prop:=
 ∃m₁ ops μ',runT P (crowd gs w sl) k=(.next m₁,ops)/\MLt (n+1) μ' μ/\wz P ty o Wg C n SB jd K L0 w0 μ' m₁ (t++ops)
end
section
variable {j:bn} {D:bn->WD} {tag tag':Tag} {st sm:gY}
theorem Mo.reopen (p:Mo j D tag st sm) (h:Mh tag) (m:Mh tag') (v:nM tag'=nM tag) (x:∀c,tag'=.cs c->Vc j D<=c/\1<=c):Mo j D tag' st sm:=by
 cases p with
 |opn _ h2 _=>rw[<-v];exact .opn m h2 x
 |reg h1 _ _=>cases tag<;>first|exact h.elim|exact h1.elim
 |last L h1 _ _ _=>cases tag<;>first|exact h.elim|exact h1.elim
 |sema h1 _=>rcases h1 with rfl|rfl<;>exact h.elim
 |fin h1 _=>cases tag<;>first|exact h.elim|exact h1.elim
theorem Mo.open_inv (m:Mo j D tag st sm) (h:Mh tag):OpenSt j D/\st=((Vc j D+nM tag:bn):gY)*KK/\sm=0/\∀c,tag=.cs c->Vc j D<=c/\1<=c:=by
 cases m with
 |opn _ h2 h3=>exact⟨h2,lc,lc,h3⟩
 |reg h1 _ _=>cases tag<;>first|exact h.elim|exact h1.elim
 |last L h1 _ _ _=>cases tag<;>first|exact h.elim|exact h1.elim
 |sema h1 _=>rcases h1 with rfl|rfl<;>exact h.elim
 |fin h1 _=>cases tag<;>first|exact h.elim|exact h1.elim
theorem Mo.fin_inv (c:Mo j D tag st sm) (h:Y3 tag):AllQuit j D/\st=0/\sm=0:=by
 cases c with
 |opn h1 _ _=>cases tag<;>first|exact h.elim|exact h1.elim
 |reg h1 _ _=>cases tag<;>first|exact h.elim|exact h1.elim
 |last L h1 _ _ _=>cases tag<;>first|exact h.elim|exact h1.elim
 |sema h1 _=>rcases h1 with rfl|rfl<;>exact h.elim
 |fin _ h2=>exact⟨h2,lc,lc⟩
end
section
variable [Payload] {P:ax} {ty:aQ} {o Wg C n:bn} {SB:Blocks} {jd:bn->Blocks->aG->ah->Prop} {K:aa->ah->Prop} {L0:bn} {w0:ah} {gs:eD aa} {w w':ah} {sl:gI (bn×bn)} {j:bn} {D:bn->WX} {q:bn->bn} {tag tag':Tag} {f0 f' d0:bn} {rk DU:Rank} {FM OM Av Au:Blocks} {a a':aa} {t:aC} {st sm st' sm':gY} {es:eD bG}
omit [Payload] in
theorem Sep.none (S:Sep Wg C SB j D FM OM w):Sep Wg C SB j D FM (λ_=>fo) w:=⟨S.wF,S.wO,S.apart,S.mF,λ_ h=>h.elim,S.lW,S.lC,S.lS,S.hCW,S.sW,S.sC⟩
omit [Payload] in
theorem Sep.size (S:Sep Wg C SB j D FM OM w) (h:w.heap.size<=w'.heap.size):Sep Wg C SB j D FM OM w':=
 ⟨λi m b c=>let x:=S.wF i m b c;⟨xll x.1 h,x.2⟩,S.wO,S.apart,λb c=>let x:=S.mF b c;⟨xll x.1 h,x.2⟩,S.mO,xll S.lW h,xll S.lC h,λb c=>xll (S.lS b c) h,S.hCW,S.sW,S.sC⟩
omit [Payload] in
theorem Kept.none (h:Kept Wg C L0 w0 j D OM w):Kept Wg C L0 w0 j D (λ_=>fo) w:=⟨h.keep,h.lW,h.lC,h.lO,λ_ h=>h.elim,h.tape,h.os,h.output,h.nb⟩
omit [Payload] in
theorem Kept.wg (h:Kept Wg C L0 w0 j D OM w) (c:Aside Wg w w') (p:WgAt ty Wg w' st' sm'):Kept Wg C L0 w0 j D OM w':=
 ⟨λb m=>(c.block b (by have:=h.lW;omega)).trans (h.keep b m),h.lW,h.lC,h.lO,h.lM,c.tape.trans h.tape,c.os.trans h.os,c.output.trans h.output,λx=>Nn c.block ⟨_,_,_,p⟩ (h.nb x)⟩
omit [Payload] in
theorem Yo {pos:jb} (h:∀e∈es,∀y,(al e).touch?=ζ y->∃b,y.loc=.cell b/\b.block=Wg/\y.kind≠.plain):∀op∈aw 0 fn pos es,Ok0 (ShP Wg SB) (tT o C j D) (RdD o j D) (o-1+j) op:=by intro op c;obtain⟨e,x,rfl⟩:=am c;refine⟨lc,λy z=>?_⟩;obtain⟨b,m,p,v⟩:=h e x y z;exact ι ⟨m▸⟨b,lc,κ p⟩,v⟩
omit [Payload] in
theorem xN (h:∀e∈es,Bk Wg e):∀e∈es,∀y,(al e).touch?=ζ y->∃b,y.loc=.cell b/\b.block=Wg/\y.kind≠.plain:=by intro e p y c;rcases h e p with h1|h1|⟨b,wr,rfl,m⟩;{rw[ofEvent_loc_mark h1]at c;cases c};{rw[ofEvent_loc_mark h1]at c;cases c};rw[ofEvent_cell]at c;simp only[aR,aI]at c;subst c;exact⟨b,lc,m,by simp⟩
theorem qW (jm:∀i F v w w1,jd i F v w->Ext F w w1->jd i F v w1) (ha:gs[0]?=ζ a) (I:iX P ty o Wg C n SB jd j gs w t D q d0) (S:Sep Wg C SB j D FM OM w) (R:Kept Wg C L0 w0 j D OM w)
  (E:aB P η a w=.go a' w' es) (m:Aside Wg w w') (H:WgAt ty Wg w' st' sm') (p:∀e∈es,∀y,(al e).touch?=ζ y->∃b,y.loc=.cell b/\b.block=Wg/\y.kind≠.plain) (M:∀e∈es,e.loc≠.mark (.release (stA Wg)))
  (xY:MS P ty Wg C n jd K tag' f' (az d0 es) .leaf FM (λ_=>fo) a' w') (oG:Mo j (xd D) tag' st' sm') (U:JT n tag' j)
  (N:psi n (Vc j (xd D)) tag'<psi n (Vc j (xd D)) tag\/(psi n (Vc j (xd D)) tag'=psi n (Vc j (xd D)) tag/\rk=.leaf/\f'<f0)):
  Out P ty o Wg C n SB jd K L0 w0 gs w sl t 0 (psi n (Vc j (xd D)) tag+jP j D,ranks n D rk,f0+2*lZ j D+2*sumTo o q):=by
 obtain⟨cs,Z,pR⟩:=I.pay;have x:w.heap.size<=w'.heap.size:=by rw[m.size];exact jg _
 have lW:=S.lW;refine callerStep jm ha I S E xY (S.none.size x) (λi Y=>⟨⟨x,λb W=>m.block b (S.wF i Y b W).2.1⟩,RW.of_wg m ⟨_,_,H⟩ S.hCW⟩) x (Yo p)
  (λe z y G=>by obtain⟨b,c,_⟩:=p e z y G;rw[c];rfl) M (λe z y G=>by obtain⟨b,c,J,_⟩:=p e z y G;rw[c];show b.block<_;omega) ⟨cs,(m.block C S.hCW).trans Z,pR⟩ H oG U (R.none.wg m H) ?_
 rcases N with h|⟨c,J,V⟩;{exact ι h};exact κ (κ ⟨c,J.symm,V⟩)
theorem wD (jm:∀i F v w w1,jd i F v w->Ext F w w1->jd i F v w1) (ha:gs[0]?=ζ a) (m:iX P ty o Wg C n SB jd j gs w t D q d0) (S:Sep Wg C SB j D FM OM w) (p:Kept Wg C L0 w0 j D OM w)
  (fI:WgAt ty Wg w st sm) (h:Mo j (xd D) tag st sm) (x:JT n tag j)
  (c:aB P η a w=.go a' w' es) (y:DC0 w w' es) (E:MS P ty Wg C n jd K tag f' d0 .leaf FM (λ_=>fo) a' w') (z:f'<f0):
  Out P ty o Wg C n SB jd K L0 w0 gs w sl t 0 (psi n (Vc j (xd D)) tag+jP j D,ranks n D .leaf,f0+2*lZ j D+2*sumTo o q):=by
 obtain⟨rfl,rfl⟩:=y;exact qW jm ha m S p c (.refl Wg _) fI (by simp) (by simp) E h x (κ ⟨lc,lc,z⟩)
omit [Payload] in
theorem xI (h:∀e∈es,Bk Wg e):∀e∈es,e.loc≠.mark (.release (stA Wg)):=λe c=>(norel_of_Bk h) e c
omit [Payload] in
theorem XL {m:Mark} (p:m=.read (smA Wg)\/m=.write (smA Wg)):∀e∈#[mk m],∀y,(al e).touch?=ζ y->∃b,y.loc=.cell b/\b.block=Wg/\y.kind≠.plain:=by
 intro e c y h;simp only[aZ,bh]at c;subst c;rcases p with rfl|rfl<;>
  (simp only[mk,al,aR,aI]at h
   subst h
   exact⟨smA Wg,lc,lc,by simp⟩)
omit [Payload] in
theorem Rk {m:Mark} (p:m≠.release (stA Wg)):∀e∈#[mk m],e.loc≠.mark (.release (stA Wg)):=by intro e c;simp only[aZ,bh]at c;subst c;intro h;simp only[mk,Loc.mark.injEq]at h;exact p h
section
variable (jm:∀i F v w w1,jd i F v w->Ext F w w1->jd i F v w1) (hn:n<2147483648) (ha:gs[0]?=ζ a) (fE:Kept Wg C L0 w0 j D OM w) (S:Sep Wg C SB j D FM OM w) (fI:WgAt ty Wg w st sm)
include jm hn ha fE S fI
omit hn in
theorem Vy (p:iX P ty o Wg C n SB jd j gs w t D q 0) (m:Mo j (xd D) (.kdS r) st sm) (v:JT n (.kdS r) j) (x:r<n)
  (h:Goes P η (RM ty Wg FM) DC0 (jT P .disable (MG P ty Wg FM (yD P ty Wg FM (MG P ty Wg FM (AtGoM P ty Wg C n jd (n-(r+1)) FM λg' w=>WG P η (Scr P ty Wg C n jd K r) FM (λ_=>fo) g' w))))) f0 a w):
  Out P ty o Wg C n SB jd K L0 w0 gs w sl t 0 (psi n (Vc j (xd D)) (.kdS r)+jP j D,ranks n D .leaf,f0+2*lZ j D+2*sumTo o q):=by
 rcases aD h with z|⟨I,rfl,y⟩;{obtain⟨_,a',c,J,H⟩:=z w (zh w);exact qW (tag':=.ad r) jm ha p S fE c (.refl Wg _) fI (xN bk_dis) (xI bk_dis) (.ad x H) (m.reopen trivial trivial lc (by simp)) v (ι (by simp only[psi];omega))};obtain⟨a',w',es,c,G,E⟩:=y w (zh w);exact wD jm ha p S fE fI m v c G (.kdS x E) (by omega)
theorem jfe (v:iX P ty o Wg C n SB jd j gs w t D q 1) (y:Mo j (xd D) (.ad r) st sm) (m:JT n (.ad r) j) (x:r<n)
  (h:Goes P η (RM ty Wg FM) DC0 (yD P ty Wg FM (MG P ty Wg FM (AtGoM P ty Wg C n jd (n-(r+1)) FM λg' w=>WG P η (Scr P ty Wg C n jd K r) FM (λ_=>fo) g' w))) f0 a w):
  Out P ty o Wg C n SB jd K L0 w0 gs w sl t 0 (psi n (Vc j (xd D)) (.ad r)+jP j D,ranks n D .leaf,f0+2*lZ j D+2*sumTo o q):=by
 have U:=Vc_le j (xd D);have R:=m.le;rcases aD h with G|⟨V,rfl,E⟩
 .obtain⟨_,H⟩:=G w (zh w);obtain⟨z,rfl,rfl,_⟩:=y.open_inv trivial;have M:j+r+1=n:=m;obtain⟨a',c,p⟩:=H (Vc j (xd D)) (by omega) (by simpa[nM]using fI);rcases p with⟨_,N,p⟩|⟨_,N,p⟩
  .refine qW (tag':=.rs r) jm ha v S fE c (aP w (stA Wg) _) (fI.setSt _) (xN bk_rw) (xI bk_rw) (.rs x p) ?_ m (ι (by simp only[psi];omega));have e:(((Vc j (xd D):bn):gY)+1)*KK=((Vc j (xd D)+nM (.rs r):bn):gY)*KK:=by simp[nM]
   rw[e];exact .opn trivial z (by simp)
  .refine qW (tag':=.en r) jm ha v S fE c (aP w (stA Wg) _) (fI.setSt _) (xN bk_rw) (xI bk_rw) (.en x p) ?_ m (ι (by simp only[psi];omega));have e:(((Vc j (xd D):bn):gY)+1)*KK=((Vc j (xd D)+nM (.en r):bn):gY)*KK:=by simp[nM]
   rw[e];exact .opn trivial z (by simp)
 .obtain⟨a',w',es,c,J,I⟩:=E w (zh w);exact wD jm ha v S fE fI y m c J (.ad x I) (by omega)
omit hn in
theorem jhg (p:iX P ty o Wg C n SB jd j gs w t D q 1) (m:Mo j (xd D) (.rs r) st sm) (v:JT n (.rs r) j) (x:r<n)
  (h:Goes P η (RM ty Wg FM) DC0 (jT P (.read (smA Wg)) (MG P ty Wg FM (jT P .enable (MG P ty Wg FM (AtGoM P ty Wg C n jd (n-(r+1)) FM λg' w=>WG P η (Scr P ty Wg C n jd K r) FM (λ_=>fo) g' w))))) f0 a w):
  Out P ty o Wg C n SB jd K L0 w0 gs w sl t 0 (psi n (Vc j (xd D)) (.rs r)+jP j D,ranks n D .leaf,f0+2*lZ j D+2*sumTo o q):=by
 rcases aD h with z|⟨I,rfl,y⟩;{obtain⟨_,a',c,J,H⟩:=z w (zh w);exact qW (tag':=.en r) jm ha p S fE c (.refl Wg _) fI (XL (ι lc)) (Rk (by simp)) (.en x H) (m.reopen trivial trivial lc (by simp)) v (ι (by simp only[psi];omega))};obtain⟨a',w',es,c,G,E⟩:=y w (zh w);exact wD jm ha p S fE fI m v c G (.rs x E) (by omega)
omit hn in
theorem jfz (p:iX P ty o Wg C n SB jd j gs w t D q 1) (m:Mo j (xd D) (.en r) st sm) (v:JT n (.en r) j) (x:r<n)
  (h:Goes P η (RM ty Wg FM) DC0 (jT P .enable (MG P ty Wg FM (AtGoM P ty Wg C n jd (n-(r+1)) FM λg' w=>WG P η (Scr P ty Wg C n jd K r) FM (λ_=>fo) g' w))) f0 a w):
  Out P ty o Wg C n SB jd K L0 w0 gs w sl t 0 (psi n (Vc j (xd D)) (.en r)+jP j D,ranks n D .leaf,f0+2*lZ j D+2*sumTo o q):=by
 rcases aD h with z|⟨I,rfl,y⟩;{obtain⟨_,a',c,J,H⟩:=z w (zh w);exact qW (tag':=.gos r) jm ha p S fE c (.refl Wg _) fI (xN bk_en) (xI bk_en) (.gos x H) (m.reopen trivial trivial lc (by simp)) v (ι (by simp only[psi];omega))};obtain⟨a',w',es,c,G,E⟩:=y w (zh w);exact wD jm ha p S fE fI m v c G (.en x E) (by omega)
omit hn in
theorem Y2 (y:∀g w,A g w->g.status=.running) (x:∀g w,A g w->MG P ty Wg FM (sZ P ty Wg FM A K) g w) (v:iX P ty o Wg C n SB jd j gs w t D q 0) (p:Mo j (xd D) .kd st sm) (m:JT n .kd j)
  (h:Goes P η (RM ty Wg FM) DC0 (jT P .disable (MG P ty Wg FM A)) f0 a w):
  Out P ty o Wg C n SB jd K L0 w0 gs w sl t 0 (psi n (Vc j (xd D)) .kd+jP j D,ranks n D .leaf,f0+2*lZ j D+2*sumTo o q):=by
 have M:=Vc_le j (xd D);have J:=m.le;rcases aD h with E|⟨N,rfl,z⟩;{obtain⟨_,a',c,R,I⟩:=E w (zh w);exact qW (tag':=.anch) jm ha v S fE c (.refl Wg _) fI (xN bk_dis) (xI bk_dis) (.anch y x I) (p.reopen trivial trivial lc (by simp)) m (ι (by simp only[psi];omega))};obtain⟨a',w',es,c,H,G⟩:=z w (zh w);exact wD jm ha v S fE fI p m c H (.kd y x G) (by omega)
theorem YW (z:∀g w,A g w->g.status=.running) (y:∀g w,A g w->MG P ty Wg FM (sZ P ty Wg FM A K) g w) (v:iX P ty o Wg C n SB jd j gs w t D q 1) (p:Mo j (xd D) .ld st sm) (m:JT n .ld j)
  (h:Goes P η (RM ty Wg FM) DC0 (sZ P ty Wg FM A K) f0 a w):
  Out P ty o Wg C n SB jd K L0 w0 gs w sl t 0 (psi n (Vc j (xd D)) .ld+jP j D,ranks n D .leaf,f0+2*lZ j D+2*sumTo o q):=by
 have W:=Vc_le j (xd D);have V:=m.le;rcases aD h with G|⟨Y,rfl,E⟩
 .obtain⟨_,I⟩:=G w (zh w);obtain⟨R,rfl,rfl,_⟩:=p.open_inv trivial;obtain⟨a',c,M,H⟩:=I (Vc j (xd D)) (by omega) (by simpa[nM]using fI);by_cases hv:Vc j (xd D)=0
  .obtain⟨U,x⟩:=M hv;refine qW (tag':=.en2) jm ha v S fE c (.refl Wg _) fI (xN bk_rd) (xI bk_rd) (.en2 x) ?_ m (ι (by simp only[psi];omega));have e:((Vc j (xd D)+nM .ld:bn):gY)*KK=0:=by rw[hv];simp[nM]
   rw[e];exact .fin trivial (allQuit_of R hv)
  .obtain⟨U,x⟩:=H hv;exact qW (tag':=.cs (Vc j (xd D))) jm ha v S fE c (.refl Wg _) fI (xN bk_rd) (xI bk_rd) (.cs z y x) (p.reopen trivial trivial lc (λZ e=>by cases e;omega)) m (ι (by simp only[psi];omega))
 .obtain⟨a',w',es,c,N,J⟩:=E w (zh w);exact wD jm ha v S fE fI p m c N (.ld z y J) (by omega)
theorem q4c (y:∀g w,A g w->g.status=.running) (m:∀g w,A g w->MG P ty Wg FM (sZ P ty Wg FM A K) g w) (v:iX P ty o Wg C n SB jd j gs w t D q 1) (p:Mo j (xd D) .anch st sm) (x:JT n .anch j)
  (h:Goes P η (RM ty Wg FM) DC0 A f0 a w):
  Out P ty o Wg C n SB jd K L0 w0 gs w sl t 0 (psi n (Vc j (xd D)) .anch+jP j D,ranks n D .leaf,f0+2*lZ j D+2*sumTo o q):=by
 rcases aD h with E|⟨V,rfl,z⟩;{obtain⟨W,N⟩:=m a w (E w (zh w));obtain⟨R,ops,U,H,I,J⟩:=YW (sl:=sl) jm hn ha fE S fI y m v (p.reopen trivial trivial lc (by simp)) x N;exact⟨R,ops,U,H,I.lt1 (by simp only[psi];omega),J⟩};obtain⟨a',w',es,c,M,G⟩:=z w (zh w);exact wD jm ha v S fE fI p x c M (.anch y m G) (by omega)
theorem jfo {vs:bn} (z:∀g w,A g w->g.status=.running) (y:∀g w,A g w->MG P ty Wg FM (sZ P ty Wg FM A K) g w) (v:iX P ty o Wg C n SB jd j gs w t D q 1) (p:Mo j (xd D) (.cs vs) st sm) (m:JT n (.cs vs) j)
  (h:Goes P η (RM ty Wg FM) DC0 (Eo P ty Wg FM A K vs) f0 a w):
  Out P ty o Wg C n SB jd K L0 w0 gs w sl t 0 (psi n (Vc j (xd D)) (.cs vs)+jP j D,ranks n D .leaf,f0+2*lZ j D+2*sumTo o q):=by
 have Z:=Vc_le j (xd D);have Y:=m.le;rcases aD h with I|⟨m',rfl,H⟩;{obtain⟨_,J⟩:=I w (zh w);obtain⟨U,rfl,rfl,W⟩:=p.open_inv trivial;obtain⟨R,h1⟩:=W vs lc;obtain⟨G,E⟩:=J (Vc j (xd D)) (by omega) (by simpa[nM]using fI);by_cases e:Vc j (xd D)=vs;{obtain⟨a',c,V,x⟩:=G e;exact qW (tag':=.ws) jm ha v S fE c (aP w (stA Wg) _) (fI.setSt _) (xN bk_rw) (xI bk_rw) (.ws x) (.reg trivial U (by omega)) m (ι (by simp only[psi];omega))};obtain⟨a',c,V,x⟩:=E e;exact qW (tag':=.anch) jm ha v S fE c (.refl Wg _) fI (xN bk_rd) (xI bk_rd) (.anch z y x) (p.reopen trivial trivial lc (by simp)) m (ι (by simp only[psi];omega))};obtain⟨a',w',es,c,N,M⟩:=H w (zh w);exact wD jm ha v S fE fI p m c N (.cs z y M) (by omega)
omit hn in
theorem jio (p:iX P ty o Wg C n SB jd j gs w t D q 1) (m:Mo j (xd D) .ws st sm) (v:JT n .ws j)
  (h:Goes P η (RM ty Wg FM) DC0 (jT P (.write (smA Wg)) (MG P ty Wg FM (zV P ty Wg FM K))) f0 a w):
  Out P ty o Wg C n SB jd K L0 w0 gs w sl t 0 (psi n (Vc j (xd D)) .ws+jP j D,ranks n D .leaf,f0+2*lZ j D+2*sumTo o q):=by
 rcases aD h with y|⟨H,rfl,x⟩
 .obtain⟨_,a',c,I,G⟩:=y w (zh w);refine qW (tag':=.sm) jm ha p S fE c (.refl Wg _) fI (XL (κ lc)) (Rk (by simp)) (.sm G) ?_ v (ι (by simp only[psi];omega));cases m with
  |opn h1 _ _=>exact h1.elim
  |reg h1 h2 h3=>exact .reg trivial h2 h3
  |last L h1 h2 h3 h4=>exact .last L trivial h2 h3 h4
  |sema h1 h2=>exact .sema (κ lc) h2
  |fin h1 _=>exact h1.elim
 .obtain⟨a',w',es,c,E,z⟩:=x w (zh w);exact wD jm ha p S fE fI m v c E (.ws z) (by omega)
end
end
end
section
open Go Go.Conc Go.ConcN Sim
open Go.ConcR (KK WgAt stA smA rd wr mk Payload DC0 g_of_ofEvents Bk bk_of_mute ofEvent_loc_mark ofEvent_cell)
section
variable [Payload] {P:ax} {ty:aQ} {o Wg C n:bn} {SB:Blocks} {jd:bn->Blocks->aG->ah->Prop} {K:aa->ah->Prop} {L0:bn} {w0:ah} {gs:eD aa} {w w':ah} {sl:gI (bn×bn)} {j:bn} {D:bn->WX} {q:bn->bn} {tag tag':Tag} {f0 f' d0:bn} {rk DU:Rank} {FM OM Av Au:Blocks} {a a':aa} {t:aC} {st sm st' sm':gY} {es:eD bG}
variable (jm:∀i F v w w1,jd i F v w->Ext F w w1->jd i F v w1) (ha:gs[0]?=ζ a) (fE:Kept Wg C L0 w0 j D OM w) (S:Sep Wg C SB j D FM OM w) (fI:WgAt ty Wg w st sm)
include jm ha fE S fI
theorem jhs (m:iX P ty o Wg C n SB jd j gs w t D q 1) (x:Mo j (xd D) .sm st sm) (p:JT n .sm j)
  (h:Goes P η (RM ty Wg FM) DC0 (zV P ty Wg FM K) f0 a w):
  Out P ty o Wg C n SB jd K L0 w0 gs w sl t 0 (psi n (Vc j (xd D)) .sm+jP j D,ranks n D .leaf,(f0+1)+2*lZ j D+2*sumTo o q):=by
 rcases aD h with v|⟨I,rfl,z⟩
 .obtain⟨_,N,hblk,J⟩:=v w (zh w);have nil:∀e∈(#[]:eD bG),∀y,(al e).touch?=ζ y->∃b,y.loc=.cell b/\b.block=Wg/\y.kind≠.plain:=by simp
  cases x with
  |opn h1 _ _=>exact h1.elim
  |reg h1 h2 h3=>exact qW (tag':=.blk) (f':=0) jm ha m S fE (hblk ⟨_,fI⟩) (.refl Wg w) fI nil (by simp) (.blk v) (.reg trivial h2 h3) p (κ ⟨lc,lc,by omega⟩)
  |last L h1 h2 h3 h4=>exact qW (tag':=.blk) (f':=0) jm ha m S fE (hblk ⟨_,fI⟩) (.refl Wg w) fI nil (by simp) (.blk v) (.last L trivial h2 h3 h4) p (κ ⟨lc,lc,by omega⟩)
  |sema h1 h2=>obtain⟨a',c,M,H⟩:=J fI;exact qW (tag':=.l2) jm ha m S fE c (aP w (smA Wg) _) (fI.setSm 0) (xN bk_sem) (xI bk_sem) (.l2 H) (.fin trivial h2) p (ι (by simp only[psi];omega))
  |fin h1 _=>exact h1.elim
 .obtain⟨a',w',es,c,G,E⟩:=z w (zh w);obtain⟨rfl,rfl⟩:=G;exact qW (tag':=.sm) (f':=I+1) jm ha m S fE c (.refl Wg _) fI (by simp) (by simp) (.sm E) x p (κ ⟨lc,lc,by omega⟩)
theorem jgi (p:iX P ty o Wg C n SB jd j gs w t D q 1) (m:Mo j (xd D) .l2 st sm) (v:JT n .l2 j)
  (h:Goes P η (RM ty Wg FM) DC0 (En P ty Wg FM K) f0 a w):
  Out P ty o Wg C n SB jd K L0 w0 gs w sl t 0 (psi n (Vc j (xd D)) .l2+jP j D,ranks n D .leaf,f0+2*lZ j D+2*sumTo o q):=by
 rcases aD h with y|⟨J,rfl,x⟩;{obtain⟨_,I⟩:=y w (zh w);obtain⟨H,rfl,rfl⟩:=m.fin_inv trivial;obtain⟨a',c,M,G⟩:=I fI;exact qW (tag':=.en2) jm ha p S fE c (.refl Wg _) fI (xN bk_rd) (xI bk_rd) (.en2 G) (.fin trivial H) v (ι (by simp only[psi];omega))};obtain⟨a',w',es,c,E,z⟩:=x w (zh w);exact wD jm ha p S fE fI m v c E (.l2 z) (by omega)
theorem jas (p:iX P ty o Wg C n SB jd j gs w t D q 1) (m:Mo j (xd D) .en2 st sm) (v:JT n .en2 j)
  (h:Goes P η (RM ty Wg FM) DC0 (jT P .enable (MG P ty Wg FM (jT P (.acquire (stA Wg)) K))) f0 a w):
  Out P ty o Wg C n SB jd K L0 w0 gs w sl t 0 (psi n (Vc j (xd D)) .en2+jP j D,ranks n D .leaf,f0+2*lZ j D+2*sumTo o q):=by
 rcases aD h with y|⟨I,rfl,x⟩;{obtain⟨_,a',c,J,G⟩:=y w (zh w);obtain⟨H,rfl,rfl⟩:=m.fin_inv trivial;exact qW (tag':=.acq) jm ha p S fE c (.refl Wg _) fI (xN bk_en) (xI bk_en) (.acq G) (.fin trivial H) v (ι (by simp only[psi];omega))};obtain⟨a',w',es,c,E,z⟩:=x w (zh w);exact wD jm ha p S fE fI m v c E (.en2 z) (by omega)
theorem jf4 (m:iX P ty o Wg C n SB jd j gs w t D q 0) (J:Mo j (xd D) (.gos r) st sm) (N:JT n (.gos r) j) (hr:r<n)
  (h:Goes P η (RM ty Wg FM) DC0 (AtGoM P ty Wg C n jd (n-(r+1)) FM λg' w=>WG P η (Scr P ty Wg C n jd K r) FM (λ_=>fo) g' w) f0 a w):
  Out P ty o Wg C n SB jd K L0 w0 gs w sl t 0 (psi n (Vc j (xd D)) (.gos r)+jP j D,ranks n D .leaf,f0+2*lZ j D+2*sumTo o q):=by
 rcases aD h with fB|⟨m',rfl,eG⟩
 .obtain⟨_,a',child,V,hcr,H,G,nk⟩:=fB w (zh w);have hj1:j+r+1=n:=N;have ej:n-(r+1)=j:=by omega
  rw[ej]at H;obtain⟨F,hF,W,Y⟩:=H m.pay;obtain⟨ho,rfl,rfl,_⟩:=J.open_inv trivial;have eY:=m.xX
  let x:WX:=⟨9,0,0,W,F,λ_=>fo,χ θ⟩
  have I:Sep Wg C SB (j+1) (upd D j x) FM (λ_=>fo) w:=by refine⟨λi y b c=>?_,λi y b c=>?_,λE R h1 h2 fG b c p=>?_,λb c=>?_,λ_ h=>h.elim,S.lW,S.lC,S.lS,S.hCW,S.sW,S.sC⟩;{by_cases e:i=j;{subst e;rw[ao]at c;have:=S.mF b (hF b c);exact⟨this.1,this.2.1,this.2.2.1,this.2.2.2.1⟩};rw[aA D _ e]at c;exact S.wF i (by omega) b c};{by_cases e:i=j;{subst e;rw[ao]at c;exact c.elim};rw[aA D _ e]at c|-;exact S.wO i (by omega) b c};{by_cases e:E=j;{subst e;rw[ao]at c;exact c.elim};rw[aA D _ e]at c;by_cases e2:R=j;{subst e2;rw[ao]at p;exact(S.mF b (hF b p)).2.2.2.2 E (by omega) c};rw[aA D _ e2]at p;exact S.apart E R (by omega) (by omega) fG b c p};have:=S.mF b c;refine⟨this.1,this.2.1,this.2.2.1,this.2.2.2.1,λi y v=>?_⟩;by_cases e:i=j;{subst e;rw[ao]at v;exact v.elim};rw[aA D _ e]at v;exact this.2.2.2.2 i (by omega) v
  have U:=runT_crowd_spawn (P:=P) (sl:=sl) (i:=0) ha (by simpa using V);rw[m.size]at U;have iN:=m.spawn I (a':=a') (child:=child) lc lc (.own (by rw[show(9:bn)=9 from lc]) lc lc Y) (fn:=a.frame.fn) (pos:=a.frame.place) (fn':=child.frame.fn) (pos':=a.frame.place);have M:xd (upd D j x)=upd (xd D) j ⟨7,0,0⟩:=by rw[LQ];rfl
  have eV:Vc (j+1) (xd (upd D j x))=Vc j (xd D)+1:=by rw[M];simp only[Vc,sumTo,ao];rw[sumTo_upd_out (xd D) _ cnt (jg _)];rfl
  have eS:jP (j+1) (upd D j x)=jP j D+9:=by simp only[jP,sumTo,ao];rw[sumTo_upd_out D _ WX.stage (jg _)]
  have vF:OpenSt (j+1) (xd (upd D j x)):=λi y=>by rw[M];by_cases e:i=j;{subst e;rw[ao];simp};rw[aA (xd D) _ e];exact ho i (by omega)
  have Td:((gs.setIfInBounds 0 a').push child)[0]?=ζ a':=by
   have Z:0<(gs.setIfInBounds 0 a').size:=by simp[m.size];omega
   rw[bA Z];simp
  have rD:Kept Wg C L0 w0 (j+1) (upd D j x) (λ_=>fo) w:=by refine⟨fE.keep,fE.lW,fE.lC,λi y b c=>?_,λ_ h=>h.elim,fE.tape,fE.os,fE.output,fE.nb⟩;by_cases e:i=j;{subst e;rw[ao]at c;exact c.elim};rw[aA D _ e]at c;exact fE.lO i (by omega) b c
  refine⟨_,_,_,U,?_,_,w,sl,j+1,upd D j x,q,.wg r,0,0,G,FM,λ_=>fo,a',_,_,lc,Td,.wg (by omega) nk,?_,I,fI,?_,(by show j+1+r=n;omega),rD,lc⟩;{refine bj _ _ ?_;rw[eS];simp only[psi];omega};{exact iN}
  .have e:((Vc j (xd D)+nM (.gos r):bn):gY)*KK=((Vc (j+1) (xd (upd D j x))+nM (.wg r):bn):gY)*KK:=by rw[eV];simp[nM]
   rw[e];exact .opn trivial vF (by simp)
 .obtain⟨a',w',es,z,hD,gy⟩:=eG w (zh w);exact wD jm ha m S fE fI J N z hD (.gos hr gy) (by omega)
theorem jin {f:ah->Rank} (eX:iX P ty o Wg C n SB jd j gs w t D q 0) (eP:Mo j (xd D) (.wg r) st sm) (gq:JT n (.wg r) j) (hr:r<=n)
  (h:WGo P η (Scr P ty Wg C n jd K r) (.node f) FM OM a w):
  Out P ty o Wg C n SB jd K L0 w0 gs w sl t 0 (psi n (Vc j (xd D)) (.wg r)+jP j D,ranks n D (.node f),0+2*lZ j D+2*sumTo o q):=by
 obtain⟨Av,Au,a',w',es,V,m,oW⟩:=h.2 w (Ext.refl ..);have lW:=S.lW;have lC:=S.lC;have nO:∀b,OM b->b≠Wg/\b≠C:=λb p=>⟨(S.mF b (S.mO b p).1).2.1,(S.mF b (S.mO b p).1).2.2.1⟩
 have hW:w'.heap[Wg]?=w.heap[Wg]?:=m.keep Wg lW λh=>(nO Wg h).1 lc;have hC:w'.heap[C]?=w.heap[C]?:=m.keep C lC λh=>(nO C h).2 lc;have iU:WgAt ty Wg w' st sm:=by unfold WgAt at *; rw[hW];exact fI
 have G:=m.size;have R:Sep Wg C SB j D Av Au w':=by refine⟨λi v b p=>let x:=S.wF i v b p;⟨xll x.1 G,x.2⟩,S.wO,S.apart,λb p=>?_,λb p=>⟨m.own b p,λi v hf=>?_⟩,xll S.lW G,xll S.lC G,λb p=>xll (S.lS b p) G,S.hCW,S.sW,S.sC⟩;{refine⟨m.low b p,?_⟩;rcases m.new b p with h|h;{exact(S.mF b h).2};exact⟨by omega,by omega,λhs=>by have:=S.lS b hs;omega,λi v I=>by have:=(S.wF i v b (S.wO i v b I)).1;omega⟩};rcases m.DZ b p with h|h;{exact(S.mO b h).2 i v hf};have:=(S.wF i v b hf).1;omega
 have xY:MS P ty Wg C n jd K (.wg r) 0 (az 0 es) (f w) Av Au a' w':=by rw[deafBehind_idle (λe E=>⟨(CY (Wg:=Wg) (m.ev e E) m.low).1,(CY (Wg:=Wg) (m.ev e E) m.low).2.1⟩) 0];exact .wg hr oW
 refine callerStep jm ha eX S V (tag':=.wg r) (f':=0) xY R
  (λi v=>⟨⟨G,λb p=>m.keep b (S.wF i v b p).1 λI=>(S.mO b I).2 i v p⟩,ZE hW hC⟩) G (λop eY=>?_) (λe E y Y=>(QD (m.ev e E) Y).1)
  (λe E=>(CY (Wg:=Wg) (m.ev e E) m.low).2.2.1) (λe E=>Ew (CY (Wg:=Wg) (m.ev e E) m.low).2.2.2) ?_ iU eP gq ?_ (κ (ι ⟨lc,⟨w,lc⟩⟩))
 .obtain⟨e,E,rfl⟩:=am eY;refine⟨lc,λy Y=>κ ?_⟩;obtain⟨M,H,h3,h4⟩:=QD (m.ev e E) Y;have mD:∀{b:bn},Av b->b≠Wg/\b≠C/\¬SB b/\∀i,i<j->¬(D i).O b:=λp=>(R.mF _ p).2;have N:∀{B:Blocks} {l:Loc},xJ B l->∃b,B b/\((∃a,l=.cell a/\a.block=b)\/l=.obj b):=by
   intro B l z;cases l with
   |cell a=>exact⟨_,z,ι ⟨a,lc,lc⟩⟩
   |obj r=>exact⟨_,z,κ lc⟩
   |_=>exact z.elim
  have same:∀{b b':bn} {l:Loc},((∃a:Addr,l=.cell a/\a.block=b)\/l=.obj b)->((∃a:Addr,l=.cell a/\a.block=b')\/l=.obj b')->b=b':=by intro b b' l M H;rcases M with⟨a,rfl,rfl⟩|rfl;{rcases H with⟨a',e,rfl⟩|e;{cases e;rfl};cases e};rcases H with⟨a',e,rfl⟩|e;{cases e};cases e;rfl
  obtain⟨b,p,z⟩:=N h3;have J:=mD p;refine⟨?_,λk k1 kj=>?_,λsu k k1 kj=>?_⟩;{rintro⟨c,hc,hs⟩;rw[hc]at z;rcases z with⟨a1,e,rfl⟩|e;{cases e;rcases hs with hs|hs;{exact J.2.2.1 hs};exact J.1 hs};cases e};{rintro⟨i,v,rfl,h5⟩;rcases h5 with h5|h5;{obtain⟨b',U,Z⟩:=N h5;obtain rfl:=same z Z;exact J.2.2.2 i v U};rw[h5]at z;rcases z with⟨a1,e,rfl⟩|e;{cases e;exact J.2.1 lc};cases e};rintro⟨i,v,rfl,h5⟩;obtain⟨b',⟨U,_⟩,Z⟩:=N h5;obtain⟨b3,gG,W⟩:=N (h4 su);obtain rfl:=same z Z;obtain rfl:=same z W;exact(R.mO _ gG).2 i v U
 .obtain⟨cs,M,H⟩:=eX.pay;exact⟨cs,by rw[hC];exact M,H⟩
 .refine⟨λb p=>(m.keep b (by have:=fE.lW;omega) λI=>by have:=fE.lM b I;omega).trans (fE.keep b p),fE.lW,fE.lC,fE.lO,λb p=>?_,m.tape.trans fE.tape,m.os.trans fE.os,m.output.trans fE.output,λx=>m.nb (fE.nb x)⟩;rcases m.DZ b p with h|h;{exact fE.lM b h};have:=fE.lW;omega
end
end
section
open Go Go.Conc Go.ConcN Sim
open Go.ConcR (KK WgAt stA smA rd wr mk Payload DC0 g_of_ofEvents Bk bk_of_mute ofEvent_loc_mark ofEvent_cell ofEvent_mk)
section
variable {o Wg C n:bn} {SB:Blocks} {D:bn->WX} {w:ah} {t:aC}
theorem qu4 (c:AJ o Wg C SB n D w t) (ho:0<o) {q:bn} (hq:t.act? q=ζ (.mark (.acquire (stA Wg)))) (I:t.g? q=ζ 0) (Z:t.heard q) (all:∀i,i<n->∃r,RelBy (stA Wg) t (o+i) r/\r<q) (R:Deaf t 0=0):
  kR (λb=>SB b\/b=Wg) w (o+n) t:=by
 obtain⟨p,p0,p1,p2⟩:=c.norel;have late:∀{i g:bn},t.g? i=ζ g->o<=g->t.counts i->bE t i q:=by
  intro i g m G y;obtain⟨op,E,rfl⟩:=aq.1 m;have hb:=c.ct.gs i op E;obtain⟨r,v,M⟩:=all (op.g-o) (by omega);rw[show o+(op.g-o)=op.g by omega]at v;have hrp:p<=r:=cC λh=>by have:=p1 r _ h v.g;omega
  have H:bE t r q:=.single (κ ⟨.marked M (κ v.act) hq (λk hk _=>p2 k (by omega)),v.heard,Z⟩);have G:i<=r:=cC λx=>v.after i x m y;rcases cy i r with x|oZ;{exact .trans (.single (ι ⟨x,op.g,m,v.g⟩)) H}
  .obtain rfl:i=r:=by omega
   exact H
 obtain⟨B,Y⟩:=jbk t;refine⟨⟨B,c.ct.nr,λi a ha hm=>?_,λi g m N y=>?_,R,Y⟩,c.seen,c.mem,c.ct.quiet,λop E=>?_⟩;{rcases c.known i a ha with h|h|⟨g,U,V,W⟩;{exact ι h};{exact κ h};refine ι ?_;obtain⟨z,hz,J⟩:=aq.1 I;exact⟨q,z,hz,J,κ (late U V ⟨a,ha,hm,ι W⟩)⟩};{rcases cy g o with x|oZ;{exact c.hand i g m N x y};exact⟨q,I,late m oZ y⟩};obtain⟨i,hi,rfl⟩:=Array.mem_iff_getElem.1 E;have:=c.ct.gs i _ (aN hi);omega
end
section
variable [Payload] (P:ax) (ty:aQ) (o Wg C n:bn) (SB:Blocks) (jd:bn->Blocks->aG->ah->Prop) (K:aa->ah->Prop) (L0:bn) (w0:ah)
structure Joined (gs:eD aa) (a:aa) (w:ah) (t:aC) (D:bn->WX) (FM:Blocks) (q:bn->bn):Prop where
 size:gs.size=o+n
 main:gs[0]?=ζ a
 k:K a w
 leavers:bi P t gs q
 past:kR (λb=>SB b\/b=Wg) w gs.size t
 res:∀i,i<n->jd i (D i).F (D i).val w/\Has C i (D i).val w
 pay:cj C n w
 sep:Sep Wg C SB n D FM (λ_=>fo) w
 kept:Kept Wg C L0 w0 n D (λ_=>fo) w
end
section
variable [Payload] {P:ax} {ty:aQ} {o Wg C n:bn} {SB:Blocks} {jd:bn->Blocks->aG->ah->Prop} {K:aa->ah->Prop} {L0:bn} {w0:ah} {gs:eD aa} {w w':ah} {sl:gI (bn×bn)} {j:bn} {D:bn->WX} {q:bn->bn} {tag tag':Tag} {f0 f' d0:bn} {rk DU:Rank} {FM OM Av Au:Blocks} {a a':aa} {t:aC} {st sm st' sm':gY} {es:eD bG}
section
variable (jm:∀i F v w w1,jd i F v w->Ext F w w1->jd i F v w1) (ha:gs[0]?=ζ a) (fE:Kept Wg C L0 w0 j D OM w) (S:Sep Wg C SB j D FM OM w) (fI:WgAt ty Wg w st sm)
include jm ha fE S fI
theorem q93 (m:iX P ty o Wg C n SB jd j gs w t D q 0) (N:Mo j (xd D) .acq st sm) (U:JT n .acq j)
  (h:Goes P η (RM ty Wg FM) DC0 (jT P (.acquire (stA Wg)) K) f0 a w):
  (∃R a' ops q',runT P (crowd gs w sl) 0=(.next (crowd R w sl),ops)/\Joined P o Wg C n SB jd K L0 w0 R a' w (t++ops) D FM q')\/
  Out P ty o Wg C n SB jd K L0 w0 gs w sl t 0 (psi n (Vc j (xd D)) .acq+jP j D,ranks n D .leaf,f0+2*lZ j D+2*sumTo o q):=by
 rcases aD h with fB|⟨m',rfl,Y⟩
 .left;obtain⟨_,a',x,hk⟩:=fB w (zh w);obtain⟨hq,rfl,rfl⟩:=N.fin_inv trivial;obtain rfl:j=n:=U;have Z:=m.xX;have z:∀i,i<j->(D i).stage=1:=λi c=>by have:=hq i c;simp only[xd]at this;split at this;{omega};exact this
  have fA:=bp (P:=P) (sl:=sl) (i:=0) ha (show aB P (0==0) a w=_ from x);have p:=m.step0 (fn:=a.frame.fn) (pos:=a.frame.place) jm S (es:=#[mk (.acquire (stA Wg))]) (w':=w) (a:=a) (a':=a') (λi c=>⟨Ext.refl ..,bm w⟩) (jg _)
   (Yo (by intro e v y E;simp at v;subst v;cases E)) (by intro e v y E;simp at v;subst v;cases E) (Rk (by simp)) (by intro e v y E;simp at v;subst v;cases E) m.pay
  have J:aw 0 a.frame.fn a.frame.place #[mk (.acquire (stA Wg))]=#[{g:=0,fn:=a.frame.fn,pos:=a.frame.place,act:=.mark (.acquire (stA Wg))}]:=by rw[ofEvents_eq];simp[ofEvent_mk]
  have E:(t++#[({g:=0,fn:=a.frame.fn,pos:=a.frame.place,act:=.mark (.acquire (stA Wg))}:MemOp)])[t.size]?=ζ {g:=0,fn:=a.frame.fn,pos:=a.frame.place,act:=.mark (.acquire (stA Wg))}:=by simp
  have hP:=qu4 p.tr Z (q:=t.size) (by rw[J,act?_of E]) (by rw[J];simp[bN]) (by rw[J];exact⟨0,by simp[bN],by rw[deaf_old (jg _)];exact m.deaf0⟩)
   (λi c=>by
    obtain⟨r,I⟩:=m.rel i c (by rw[z i c];omega)
    exact⟨r,I.appOther g_of_ofEvents (by omega),lt_of_act? I.act⟩) (by rw[p.deaf0];rfl)
  have M:∀i,i<j->∃g,((gs.map (woken P a a' w)).setIfInBounds 0 a')[o+i]?=ζ g/\QuitsD P (D i).fuel (D i).deaf g/\jd i (D i).F (D i).val w:=λi c=>by
   obtain⟨g,H,hs⟩:=p.wk i c;have h1:=z i c;cases hs with
   |own h9 _ _ _=>omega
   |lib h I=>exact⟨g,H,h.quits h1,I⟩
  refine⟨_,a',_,λi=>if i<o then q i else(D (i-o)).fuel,fA,by simp[m.size],bC _ _ _ (by rw[m.size];omega),hk,⟨λi g h0 H=>?_,λk V=>?_⟩,?_,λi c=>⟨?_,?_⟩,m.pay,S.none,fE.none⟩
  .show QuitsD P (if i<o then q i else(D (i-o)).fuel) _ g;by_cases eZ:i<o;{rw[jC eZ];exact p.old i g h0 eZ H}
   .rw[iO eZ];have c:i<o+j:=by have:=(j5 H).1;rw[p.size]at this;exact this
    obtain⟨g',G,W,_⟩:=M (i-o) (by omega);rw[show o+(i-o)=i by omega]at G;obtain rfl:g=g':=by rw[H]at G;exact xoi G
    have:=p.deafW (i-o) (by omega);rw[show o+(i-o)=i by omega]at this;rw[this];exact W
  .rw[p.size]at V;exact p.above k V
  .rw[p.size];exact hP
  .exact(M i c).choose_spec.2.2
  .exact m.has i c (by rw[z i c];omega)
 .right;obtain⟨a',w',es,x,hD,G⟩:=Y w (zh w);exact wD jm ha m S fE fI N U x hD (.acq G) (by omega)
end
theorem WS.running_of {d:WX} (h:WS P ty Wg C n jd i d g w) (c:d.stage≠1):g.status=.running:=by
 cases h with
 |own h1 h2 h3 h=>exact PI (λ_ _ _ _ x=>x.1) h
 |lib h hr=>exact h.running_of c
theorem someone_runs (ha:gs[0]?=ζ a) (z:MS P ty Wg C n jd K tag f0 d0 rk FM OM a w) (p:iX P ty o Wg C n SB jd j gs w t D q d0) (x:Mo j (xd D) tag st sm):
  ∃(i:bn) (g:aa),gs[i]?=ζ g/\g.status=.running:=by
 rcases z.status with⟨c,_⟩|⟨_,rfl⟩;{exact⟨0,a,ha,c⟩}
 .have v:∀{i:bn},(xd D i).stage≠1->(D i).stage≠1:=λ{i} h e=>h (by simp only[xd,e];rfl);cases x with
  |opn h1 _ _=>exact h1.elim
  |reg _ _ h3=>obtain⟨i,y,E⟩:=exists_counted h3;obtain⟨g,m,c⟩:=p.wk i y;exact⟨o+i,g,m,c.running_of (v (by omega))⟩
  |last L _ h2 h3 _=>obtain⟨g,m,c⟩:=p.wk L h2;exact⟨o+L,g,m,c.running_of (v (by omega))⟩
  |sema h1 _=>rcases h1 with h1|h1<;>cases h1
  |fin h1 _=>exact h1.elim
theorem all_awake (ha:gs[0]?=ζ a) (y:MS P ty Wg C n jd K tag f0 d0 rk FM OM a w) (p:iX P ty o Wg C n SB jd j gs w t D q d0):∀g∈gs,awake g:=by
 intro g x z;obtain⟨i,c⟩:=Array.mem_iff_getElem?.1 x;rcases aS i with rfl|jR;{rw[ha]at c;cases c;rcases y.status with⟨m,_⟩|⟨m,_⟩<;>rw[m]<;>simp}
 .by_cases eZ:i<o;{rcases(p.old i g jR eZ c).status with h|h<;>rw[h]<;>simp}
  .have E:i<o+j:=by have:=(j5 c).1;rw[p.size]at this;exact this
   obtain⟨g',v,m⟩:=p.wk (i-o) (by omega);rw[show o+(i-o)=i by omega]at v;rw[c]at v;cases v;rcases m.status with h|h<;>rw[h]<;>simp
theorem qx3 (jm:∀i F v w w1,jd i F v w->Ext F w w1->jd i F v w1) (hn:n<2147483648):∀(μ:Mea) (m:Machine) (t:aC),wz P ty o Wg C n SB jd K L0 w0 μ m t->
  (∃R a' w' H ops D FM q',stepT P m=(.next (crowd R w' H),ops)/\Joined P o Wg C n SB jd K L0 w0 R a' w' (t++ops) D FM q')\/
  (∃m' ops M,stepT P m=(.next m',ops)/\MLt (n+1) M μ/\wz P ty o Wg C n SB jd K L0 w0 M m' (t++ops)):=by
 rintro μ m t ⟨gs,w,sl,j,D,q,tag,f0,d0,rk,FM,OM,a,st,sm,rfl,ha,I,p,S,fI,y,z,c,rfl⟩;obtain⟨i,g,d,H,J,W,eG⟩:=crowd_pick (P:=P) (w:=w) (sl:=sl) (all_awake ha I p) (someone_runs ha I p y);rw[eG];have I:=I.rely (w1:=w.at d) ⟨⟨jg _,λ_ _=>lc⟩,λx=>x⟩;have p:=p.at jm d;have fI:WgAt ty Wg (w.at d) st sm:=fI;have S:Sep Wg C SB j D FM OM (w.at d):=⟨S.wF,S.wO,S.apart,S.mF,S.mO,S.lW,S.lC,S.lS,S.hCW,S.sW,S.sC⟩
 have c:Kept Wg C L0 w0 j D OM (w.at d):=⟨c.keep,c.lW,c.lC,c.lO,c.lM,c.tape,c.os,c.output,c.nb⟩
 generalize w.at d=w at*;have eY:=p.xX;rcases aS i with rfl|jR
 .obtain rfl:g=a:=by rw[ha]at J;exact(xoi J).symm
  cases I with
  | @wg r _ _ _ _ _ hr h=>
   right;cases rk with
   |node f=>exact jin jm ha c S fI p y z hr h
   |leaf=>
    have V:=h w (Ext.refl ..);cases r with
    |zero=>obtain⟨A,wR,vO,m₂,Z⟩:=V.2 ⟨_,_,fI⟩;obtain⟨m₁,ops,M,E,G,Y⟩:=Y2 (sl:=H) jm ha c S fI wR vO p (y.reopen trivial trivial lc (by simp)) z Z;exact⟨m₁,ops,M,E,G.lt1 (by simp only[psi];omega),Y⟩
    |succ r=>obtain⟨m₂,Z⟩:=V.2 ⟨_,_,fI⟩;obtain⟨m₁,ops,M,E,G,Y⟩:=Vy (sl:=H) jm ha c S fI p (y.reopen (tag':=.kdS r) trivial trivial lc (by simp)) (by have:j+(r+1)=n:=z;show j+r+1=n;omega) (by omega) Z;exact⟨m₁,ops,M,E,G.lt1 (by simp only[psi];omega),Y⟩
  |kdS hr h=>exact κ (Vy jm ha c S fI p y z hr h)
  |ad hr h=>exact κ (jfe jm hn ha c S fI p y z hr h)
  |rs hr h=>exact κ (jhg jm ha c S fI p y z hr h)
  |en hr h=>exact κ (jfz jm ha c S fI p y z hr h)
  |gos hr h=>exact κ (jf4 jm ha c S fI p y z hr h)
  |kd E G h=>exact κ (Y2 jm ha c S fI E G p y z h)
  |anch E G h=>exact κ (q4c jm hn ha c S fI E G p y z h)
  |ld E G h=>exact κ (YW jm hn ha c S fI E G p y z h)
  |cs E G h=>exact κ (jfo jm hn ha c S fI E G p y z h)
  |ws h=>exact κ (jio jm ha c S fI p y z h)
  |sm h=>exact κ (jhs jm ha c S fI p y z h)
  |blk h=>simp at W
  |l2 h=>exact κ (jgi jm ha c S fI p y z h)
  |en2 h=>exact κ (jas jm ha c S fI p y z h)
  |acq h=>rcases q93 (sl:=H) jm ha c S fI p y z h with⟨R,a',ops,q',E,G⟩|h;{exact ι ⟨R,a',w,H,ops,D,FM,q',E,G⟩};exact κ h
 .right;by_cases eZ:i<o;{exact jb1 ha I p S z c fI (λtag' ht=>y.retag ht) jR eZ J W}
  .have xS:i<o+j:=by have:=(j5 J).1;rw[p.size]at this;exact this
   obtain⟨N,rfl⟩:∃N,i=o+N:=⟨i-o,by omega⟩
   have U:N<j:=by omega
   obtain⟨g',gy,V⟩:=p.wk N U;obtain rfl:g=g':=by rw[J]at gy;exact xoi gy
   cases V with
   |own h9 hd hf hw=>
    generalize Aj:(D N).rank=O5 at hw;cases O5 with
    |leaf=>exact q2w jm ha I p S z c fI y U J h9 hd (hw w (Ext.refl ..))
    |node f=>exact jb3 jm ha I p S z c fI y U J h9 hd Aj hw
   |lib h hr=>exact jbh jm hn ha I p S z c fI y U J W h hr
theorem q2d (jm:∀i F v w w1,jd i F v w->Ext F w w1->jd i F v w1) (hn:n<2147483648):∀(μ:Mea) (m:Machine) (t:aC),wz P ty o Wg C n SB jd K L0 w0 μ m t->
  ∃N p a' w' c t' D FM x,runNT P N m t=(.next (crowd p w' c),t')/\Joined P o Wg C n SB jd K L0 w0 p a' w' t' D FM x:=by
 intro μ;induction μ using(MLt.wf (n+1)).induction with
 |_ μ ih=>intro m t h;rcases qx3 jm hn μ m t h with⟨p,a',w',c,ops,D,FM,x,y,z⟩|⟨I,ops,J,y,z,E⟩;{exact⟨1,p,a',w',c,_,D,FM,x,by simp only[runNT,y],z⟩};obtain⟨N,p,a',w',c,t',D,FM,x,G,H⟩:=ih J z I _ E;exact⟨N+1,p,a',w',c,t',D,FM,x,by simp only[runNT,y];exact G,H⟩
end
theorem runNT_trans {P:ax} (a:bn) {b:bn} {m m':Machine} {t':aC} {r:Stepped×aC} (h:runNT P a m t=(.next m',t')) (k:runNT P b m' t'=r):runNT P (a+b) m t=r:=by rw[runNT_add,h];exact k
theorem rU.app {u:aC} {l:Loc} (h:rU t l) (v:∀op∈u,∀x,op.act.touch?=ζ x->x.loc≠l):rU (t++u) l:=by intro i a ha;obtain⟨op,m,c⟩:=bV ha;rcases aU m with⟨z,p⟩|⟨_,y⟩;{exact h i a (by rw[touchAt_of p];exact c)};exact v op y a c
theorem kR.at {SB:Blocks} (h:kR SB w n t) (d:bn):kR SB (w.at d) n t:=⟨h.past,h.seen,h.mem,h.quiet,h.gs⟩
section
variable {P:ax} {SB:Blocks}
theorem qtv:∀(M:bn) (gs:eD aa) (a:aa) (w:ah) (sl:gI (bn×bn)) (t:aC) (q:bn->bn),sumTo gs.size q<=M->gs[0]?=ζ a->a.status=.running->bi P t gs q->kR SB w gs.size t->
  ∃(N:bn) (m:eD aa) (Z:gI (bn×bn)) (R:bn) (c:gI (bn×bn)) (t':aC) (q':bn->bn) (d:bn),
   runNT P N (crowd gs w sl) t=(.next (crowd m (w.at R) Z),t')/\stepT P (crowd m (w.at R) Z)=runT P (crowd m (w.at d) c) 0/\m.size=gs.size/\m[0]?=ζ a/\bi P t' m q'/\kR SB w m.size t'/\∀l,rU t l->rU t' l:=by
 intro M;induction M with
 |zero|succ M ih=>
  intro gs a w sl t q hM V U G hP;have haw:∀g∈gs,awake g:=by
   intro g v;obtain⟨i,z,rfl⟩:=Array.mem_iff_getElem.1 v;rcases aS i with rfl|jR
   .have:gs[0]=a:=by simpa[aN z]using V
    rw[this];exact awake_of (ι U)
   .exact awake_of ((G.old i _ jR (aN z)).status.elim .inl λx=>κ (κ x))
  obtain⟨i,g,d,c,z,v,I⟩:=crowd_pick (P:=P) (w:=w) (sl:=sl) haw ⟨0,a,V,U⟩;rcases aS i with rfl|jR;{exact⟨0,gs,sl,w.drawn,c,t,q,d,lc,I,lc,V,G,hP,λ_ h=>h⟩}
  .have Y:=G.old i g jR z;have hi0:(i==0)=θ:=by simp;omega
   have eZ:i<gs.size:=(j5 z).1;cases SC:q i with
   |zero=>rw[SC]at Y;rw[Y.1]at v;cases v
   |succ k=>
    rw[SC]at Y;rcases Y with⟨hf,_⟩|⟨_,g',es,hm,FN,EX⟩;{rw[hf]at v;cases v};have sO:=bp (P:=P) (sl:=c) (i:=i) z (by rw[hi0];exact FN (w.at d));have fC:((gs.map (woken P g g' (w.at d))).setIfInBounds i g').size=gs.size:=by simp
    have Ug:sumTo gs.size (upd q i k)+(k+1)=sumTo gs.size q+k:=by have:=sumTo_upd q k id eZ;simpa[SC]using this
    first
    |(exfalso;omega)
    |obtain⟨N,m,Z,R,Ud,t',q',d',hr,pM,hz,vQ,vN,J,uy⟩:=ih ((gs.map (woken P g g' (w.at d))).setIfInBounds i g') a (w.at d) c (t++aw i g.frame.fn g.frame.place es) (upd q i k) (by rw[fC];omega)
      (by
       have fG:i≠0:=by omega
       rw[xne fG,bI,V]
       simp[woken_run U]) U
      ⟨λj x W p=>by
       by_cases Hf:i=j;{subst Hf;rw[xsl (by simpa using eZ)]at p;obtain rfl:=xoi p;rw[ao,Deaf_own];exact EX}
       .rw[xne Hf,bI]at p;obtain⟨y,hy,rfl⟩:=aq.1 p;have H:=G.old j y W hy;rw[bH H,aA q k (ce Hf),bB t Hf _ (λop E=>by obtain⟨e,_,rfl⟩:=am E;rfl)];exact H,λj W=>by
       rw[bB t (g':=i) (by simp at W;omega) _ (λop E=>by obtain⟨e,_,rfl⟩:=am E;rfl)]
       exact G.above j (by simpa using W)⟩
      (by rw[fC];exact(hP.at d).mute (by omega) eZ hm)
     exact⟨N+1,m,Z,R,Ud,t',q',d',by simp only[runNT,I,sO];exact hr,pM,hz.trans fC,vQ,vN,⟨J.past,J.seen,J.mem,J.quiet,J.gs⟩,
      λl hl=>uy l (hl.app λop E x p=>by
       obtain⟨e,he,rfl⟩:=am E
       rw[touch_mute (hm e he)]at p;cases p)⟩
def EvZ (SB:Blocks) (B:bn) (e:bG):Prop:=EvL (ShB SB) B e/\∀y,(al e).touch?=ζ y->y.loc.isMemory=η
theorem kR.evs (h:kR SB w n t) (hn:0<n) (y:w.heap.size<=w'.heap.size) (p:∀e∈es,EvZ SB w'.heap.size e) (fn:aL) (pos:jb):kR SB w' n (t++aw 0 fn pos es):=by obtain⟨B,z⟩:=h.past;refine⟨⟨max B w'.heap.size,(z.mono (Nat.le_max_left ..)).own λe m=>?_⟩,MZ (λop c=>(h.seen op c).mono y) (λop c=>?_),Gr h.mem (λop c x v=>?_),h.quiet.app λop c x v E=>?_,λop c=>?_⟩;{have:=(p e m).1;exact⟨this.1,this.2.1,this.2.2.1,MemAct.low_mono (Nat.le_max_right ..) this.2.2.2⟩};{obtain⟨e,m,rfl⟩:=am c;exact Ew (p e m).1.2.2.2};{obtain⟨e,m,rfl⟩:=am c;exact(p e m).2 x v};{obtain⟨e,m,rfl⟩:=am c;exact⟨(p e m).1.1 x v E,λ_=>lc⟩};rcases bO.1 c with h'|h';{exact h.gs op h'};obtain⟨e,m,rfl⟩:=am h';exact hn
theorem Af {a:aa} (Y:gs[0]?=ζ a) (U:a.status=.running) (hL:bi P t gs q) (hP:kR SB w gs.size t)
  (hs:∀d,∃a' w' es,aB P η a (w.at d)=.go a' w' es/\w.heap.size<=w'.heap.size/\∀e∈es,EvZ SB w'.heap.size e):
  ∃(N:bn) (c:eD aa) (a':aa) (d:bn) (w':ah) (es:eD bG) (h:gI (bn×bn)) (t':aC) (G:bn->bn),
   runNT P N (crowd gs w sl) t=(.next (crowd c w' h),t')/\aB P η a (w.at d)=.go a' w' es/\c.size=gs.size/\c[0]?=ζ a'/\bi P t' c G/\kR SB w' c.size t'/\
   ∀l,rU t l->(∀e∈es,∀x,(al e).touch?=ζ x->x.loc≠l)->rU t' l:=by
 obtain⟨N,c,jD,d1,h,t',G,d,hr,E,hz,M,J,sH,uy⟩:=qtv (P:=P) _ gs a w sl t q (jg _) Y U hL hP;obtain⟨a',w',es,p,V,iH⟩:=hs d;have sO:=bp (P:=P) (sl:=h) (i:=0) M (show aB P (0==0) a (w.at d)=_ from p);have H:0<c.size:=(j5 M).1;have R:((c.map (woken P a a' w')).setIfInBounds 0 a').size=c.size:=by simp
 refine⟨N+1,(c.map (woken P a a' w')).setIfInBounds 0 a',a',d,w',es,h,t'++aw 0 a.frame.fn a.frame.place es,G,?_,p,R.trans hz,by simp[H],⟨λj x v z=>?_,λj v=>?_⟩,?_,λl hl he=>?_⟩;{rw[show N+1=N+1 from lc];exact runNT_trans _ hr (by simp only[runNT,E,sO])}
 .have W:0≠j:=by omega
  rw[xne W,bI]at z;obtain⟨y,hy,rfl⟩:=aq.1 z;have I:=J.old j y v hy;rw[bH I,bB t' (by omega) _ (λop m=>by obtain⟨e,_,rfl⟩:=am m;rfl)];exact I
 .rw[bB t' (g':=0) (by simp at v;omega) _ (λop m=>by obtain⟨e,_,rfl⟩:=am m;rfl)];exact J.above j (by simpa using v)
 .rw[R];exact(sH.at d).evs H V iH _ _
 .refine(uy l hl).app λop m x z=>?_;obtain⟨e,Z,rfl⟩:=am m;exact he e Z x z
theorem qwo {R:ah->ah->Prop} {Stop:aa->ah->Prop} (G:∀w d,R w (w.at d)) (hs:∀g w,Stop g w->g.status=.running):∀(n:bn) (gs:eD aa) (a:aa) (w:ah) (sl:gI (bn×bn)) (t:aC) (q:bn->bn),gs[0]?=ζ a->bi P t gs q->kR SB w gs.size t->
   Goes P η R DC0 Stop n a w->
   ∃(N:bn) (h:eD aa) (a':aa) (d:bn) (m:gI (bn×bn)) (t':aC) (H:bn->bn),
    runNT P N (crowd gs w sl) t=(.next (crowd h (w.at d) m),t')/\h.size=gs.size/\h[0]?=ζ a'/\Stop a' (w.at d)/\bi P t' h H/\kR SB (w.at d) h.size t':=by
 intro n;induction n with
 |zero=>exact λgs a w sl t q p x y z=>⟨0,gs,a,w.drawn,sl,t,q,lc,lc,p,z w (G w w.drawn),x,y⟩
 |succ n ih=>
  intro gs a w sl t q p x y z;rcases z with W|⟨V,U⟩;{exact⟨0,gs,a,w.drawn,sl,t,q,lc,lc,p,W w (G w w.drawn),x,y⟩}
  have key:∀d,∃a',aB P η a (w.at d)=.go a' (w.at d) #[]/\Goes P η R DC0 Stop n a' (w.at d):=λd=>by
   have:=U (w.at d) (G w d);cases c:aB P η a (w.at d)with
   |go a' w' es=>rw[c,goes_go]at this;obtain⟨⟨rfl,rfl⟩,E⟩:=this;exact⟨a',lc,E⟩
   |_=>rw[c]at this;exact this.elim
  obtain⟨N,kI,a1,d,w1,gW,jD,t1,q1,hr,c,hz,og,oL,qI,_⟩:=Af (P:=P) (SB:=SB) (sl:=sl) p V x y λd=>let⟨a',v,_⟩:=key d;⟨a',_,_,v,jg _,by simp⟩;obtain⟨a',v,Y⟩:=key d;rw[c]at v;cases v;obtain⟨J,h,a',M,m,t',H,iJ,I,vQ,Z,vN,sH⟩:=ih kI _ (w.at d) jD t1 q1 og oL qI Y;exact⟨N+J,h,a',M,m,t',H,runNT_trans _ hr iJ,I.trans hz,vQ,Z,vN,sH⟩
end
section
variable [Payload] {P:ax} {ty:aQ} {Wg C n:bn} {SB:Blocks} {jd:bn->Blocks->aG->ah->Prop} {K:aa->ah->Prop} {L0:bn} {gs:eD aa} {w:ah} {sl:gI (bn×bn)} {q:bn->bn} {F O:Blocks} {a:aa} {t:aC}
theorem phase (jm:∀i F v w w1,jd i F v w->Ext F w w1->jd i F v w1) (hn:n<2147483648) (W:gs[0]?=ζ a) (Y:bi P t gs q) (z:kR SB w gs.size t) (uy:∀x:Addr,x.block=Wg->rU t (.cell x))
  (I:WG P η (Scr P ty Wg C n jd K n) F O a w) (fI:WgAt ty Wg w 0 0) (oh:cj C n w) (hF:∀b,F b->b<w.heap.size/\b≠Wg/\b≠C/\¬SB b) (hO:∀b,O b->F b)
  (lW:Wg<w.heap.size) (lC:C<w.heap.size) (lS:∀b,SB b->b<w.heap.size) (M:C≠Wg) (sW:¬SB Wg) (sC:¬SB C) (kW:L0<=Wg) (kC:L0<=C) (kO:∀b,O b->L0<=b):
  ∃N V a' w' U t' D FM q',runNT P N (crowd gs w sl) t=(.next (crowd V w' U),t')/\Joined P gs.size Wg C n SB jd K L0 w V a' w' t' D FM q':=by
 obtain⟨rk,I⟩:=I;have jR:0<gs.size:=(j5 W).1;obtain⟨B,G⟩:=z.past
 let D:bn->WX:=λ_=>⟨0,0,0,.leaf,λ_=>fo,λ_=>fo,χ θ⟩
 have Z:∀i x,touchAt t i=ζ x->¬ShP Wg SB x.loc->Knows t 0 i:=λi x p E=>by rcases G.known i x p (z.mem i x p)with h|⟨⟨c,y,h2⟩,_⟩;{exact h};exact gF ⟨c,y,ι h2⟩ E
 have tr:AJ gs.size Wg C SB 0 D w t:=by
  refine⟨⟨λi op x m p E=>?_,λk k1 kj l ⟨i,m,_⟩=>gF m (au i),λk k1 kj l ⟨i,m,_⟩=>gF m (au i),λl E _ i x p e=>Z i x p (e▸E),λl E _ i x p e _=>Z i x p (e▸E),G.clean,λi op m=>?_⟩,
   ⟨t.size,jg _,λi g m H=>?_,λi m he=>?_⟩,λi g H fG eZ hc=>G.over i g H fG hc,λi x p=>?_,z.mem,z.seen⟩
  .obtain⟨c,y,h2|h2⟩:=E;{exact z.quiet i op x m p ⟨c,y,h2⟩};exact gF y (uy c h2 i x (by rw[touchAt_of m];exact p))
  .have:=z.gs op (aV m);omega
  .obtain⟨op,ho,rfl⟩:=aq.1 H;exact z.gs op (aV ho)
  .have:=lt_of_act? he;omega
  .rcases G.known i x p (z.mem i x p)with h|⟨⟨c,y,h2⟩,J⟩;{exact ι h};exact κ (ι ⟨⟨c,y,ι h2⟩,J⟩)
 have kP:MS P ty Wg C n jd K (.wg n) 0 0 rk F O a w:=.wg (jg _) I;have eX:iX P ty gs.size Wg C n SB jd 0 gs w t D q 0:=⟨lc,λi g m _ H=>Y.old i g m H,λi m=>gF m (au i),tr,G.hears,λi m=>gF m (au i),Y.above,λi m=>gF m (au i),λi m=>gF m (au i),oh,jR⟩
 have S:Sep Wg C SB 0 D F O w:=⟨λi m=>gF m (au i),λi m=>gF m (au i),λi _ m=>gF m (au i),λb R=>let⟨y,h2,J,h4⟩:=hF b R;⟨y,h2,J,h4,λi m=>gF m (au i)⟩,λb R=>⟨hO b R,λi m=>gF m (au i)⟩,lW,lC,lS,M,sW,sC⟩
 have hm:Mo 0 (xd D) (.wg n) 0 0:=by have:=Mo.opn (j:=0) (D:=xd D) (tag:=.wg n) trivial (λi m=>gF m (au i)) (by simp);simpa[Vc,sumTo,nM]using this
 have hj:JT n (.wg n) 0:=Nat.zero_add n;have hk:Kept Wg C L0 w 0 D O w:=⟨λ_ _=>lc,kW,kC,λi m=>gF m (au i),kO,lc,lc,lc,id⟩
 exact q2d (o:=gs.size) jm hn _ (crowd gs w sl) t ⟨gs,w,sl,0,D,q,.wg n,0,0,rk,F,O,a,0,0,lc,W,kP,eX,S,fI,hm,hj,hk,lc⟩
end
end
section
abbrev link:Go.Conc.Lib.WgLink:={add:=53,done:=55,wait:=57,relMerge:=77,disable:=78,enable:=79,inBubble:=80,associate:=81,fatal:=82,uOr:=83,uAdd:=84,raceRead:=85,uLoad:=86,uStore:=87,disassociate:=88,semrelease:=89,acquire:=92,isAssociated:=93,uCas:=94,raceWrite:=95,semacquire:=96,orU64:=118,addU64:=119,loadU64:=120,storeU64:=121,casU64:=125,tWgP:=158,tUP:=160,tAssoc:=161,tWg:=122,tAU:=119,tU64:=117,tUint:=165,tU32:=120,tPU32:=166,tPAU:=203,tPU64:=205,tNoCopy:=114,tANoCopy:=115,tAlign64:=116}
theorem ND:Go.Conc.Lib.WgLib prog link:=
 ⟨func53,func55,func57,func77,func78,func79,func80,func81,func82,func83,func84,func85,func86,func87,func88,func89,func92,func93,func94,func95,func96,func118,func119,func120,func121,func125,underlying158,Tryz.runUnderlying158,Tryz.sizeOf158,Tryz.isAgg158,Tryz.zeroValue158,underlying160,Tryz.runUnderlying160,Tryz.sizeOf160,Tryz.isAgg160,Tryz.zeroValue160,underlying161,Tryz.runUnderlying161,Tryz.sizeOf161,Tryz.isAgg161,Tryz.zeroValue161,underlying122,Tryz.runUnderlying122,Tryz.sizeOf122,Tryz.isAgg122,Tryz.zeroValue122,underlying119,Tryz.runUnderlying119,Tryz.sizeOf119,Tryz.isAgg119,Tryz.zeroValue119,underlying117,Tryz.runUnderlying117,Tryz.sizeOf117,Tryz.isAgg117,Tryz.zeroValue117,underlying165,Tryz.runUnderlying165,Tryz.sizeOf165,Tryz.isAgg165,Tryz.zeroValue165,underlying120,Tryz.runUnderlying120,Tryz.sizeOf120,Tryz.isAgg120,Tryz.zeroValue120,underlying166,Tryz.runUnderlying166,Tryz.sizeOf166,Tryz.isAgg166,Tryz.zeroValue166,underlying203,Tryz.runUnderlying203,Tryz.sizeOf203,Tryz.isAgg203,Tryz.zeroValue203,underlying205,Tryz.runUnderlying205,Tryz.sizeOf205,Tryz.isAgg205,Tryz.zeroValue205,underlying0,Tryz.runUnderlying0,Tryz.sizeOf0,Tryz.isAgg0,Tryz.zeroValue0,underlying3,Tryz.runUnderlying3,Tryz.sizeOf3,Tryz.isAgg3,Tryz.zeroValue3,underlying4,Tryz.runUnderlying4,Tryz.sizeOf4,Tryz.isAgg4,Tryz.zeroValue4,underlying9,Tryz.runUnderlying9,Tryz.sizeOf9,Tryz.isAgg9,Tryz.zeroValue9,underlying20,Tryz.runUnderlying20,Tryz.sizeOf20,Tryz.isAgg20,Tryz.zeroValue20,underlying21,Tryz.runUnderlying21,Tryz.sizeOf21,Tryz.isAgg21,Tryz.zeroValue21,(by kernel_rfl),(by kernel_rfl)⟩
end
section
open Go Go.Conc Go.ConcN Sim
structure Same (w wc:ah):Prop where
 heap:wc.heap=w.heap
 os:wc.os=w.os
 output:wc.output=w.output
theorem Same.refl (w:ah):Same w w:=⟨lc,lc,lc⟩
section
variable {X:Cx} {Fb:aL->gJ} {SB:Blocks} {Q:aj->dw aj->ah->Prop}
theorem X6 (sG:X.P'=X.P) (S:X.Set Fb η (λ_=>θ)) (hQ:∀fr cs w,Q fr cs w->∀Y,fr.mode≠.panicking Y) {base:dw aj} {wc:ah}
  {R:Tape->aj} {N:Tape->dw aj} {U:Tape->ah} {ne:Tape->eD bG} (eG:∀τ:Tape,(∀i q,i<w.drawn->τ i q=w.tape i q)->aB X.P η (G fr (up++[c0])) {w with tape:=τ}=.go (G (R τ) (N τ)) (U τ) (ne τ))
  (hm:∀τ:Tape,(∀i q,i<w.drawn->τ i q=w.tape i q)->oI X.P Q (R τ) (N τ) (U τ))
  (hf:FR X Fb η ρ fr fr) (hu:FsR X Fb η ρ up up) (hw:WN X ρ w wc) (hs:Same w wc) (hn:NB w) (hB:Bot (fr::up)):
  (fr.mode=.run\/fr.defers≠[]\/up≠[])/\∀d,∃p m w1 I es,aB X.P η (G fr (up++base)) (wc.at d)=.go (G p (m++base)) (shf wc.tape (w.drawn,d) w1) es/\
    (∃τ,(Agree w τ)/\p=R τ/\m++[c0]=N τ/\w1=U τ)/\FR X Fb η I p p/\FsR X Fb η I m m/\WR X I w1 (shf wc.tape (w.drawn,d) w1)/\ρ.le I/\NB w1/\Bot (p::m)/\
    qC (rng ρ) (own X ρ) (wc.at d) (rng I) (own X I) (shf wc.tape (w.drawn,d) w1) es:=by
 have Z:fr.mode=.run\/fr.defers≠[]\/up≠[]:=by refine Classical.byContradiction λW=>?_;have wL:up=[]:=Classical.byContradiction λh=>W (κ (κ h));subst wL;obtain⟨J,V,k0⟩:=hw;have H:aB X.P η (G fr [c0]) (re w J)=.go (G (R J) (N J)) (U J) (ne J):=eG J V;obtain⟨v,x,y⟩:=Ya S hf k0 hn (λh=>W (h.imp id .inl)) H;exact Nu hQ (hm J V) v x y
 refine⟨Z,λd=>?_⟩
 let τ:Tape:=λi q=>if i<w.drawn then w.tape i q else wc.tape (i-w.drawn+d) q
 have ha:Agree w τ:=λi q hi=>jC hi;have zG:Fit wc.tape (w.drawn,d) (re w τ):=⟨jg _,λi q hi=>by
  have gm:¬i<w.drawn:=Nat.not_lt.2 hi
  exact(iO gm).symm⟩
 have esh:shf wc.tape (w.drawn,d) (re w τ)=wc.at d:=by have v:=hs.heap;have x:=hs.os;have y:=hs.output;obtain⟨hp,tp,dr,os,out⟩:=wc;simp only at v x y;subst v;subst x;subst y;simp[shf,re,World.at]
 have oW:WR X ρ (re w τ) (wc.at d):=by
  obtain⟨J,_,k⟩:=hw;refine⟨k.fn,k.inj,k.heap,λi q=>?_,k.sh⟩;have v:¬w.drawn+i<w.drawn:=by omega
  have x:w.drawn+i-w.drawn+d=d+i:=by omega
  have y:τ (w.drawn+i) q=wc.tape (w.drawn+i-w.drawn+d) q:=iO v;rw[x]at y;exact y
 have H:aB X.P η (G fr (up++[c0])) (re w τ)=.go (G (R τ) (N τ)) (U τ) (ne τ):=eG τ ha;rcases ZB S hf oW η (λh hu=>by subst hu;rw[hB fr (by simp)]at h;cases h) Z with⟨p,m,w1,es,Kq⟩|Kq
 .have e1:aB X.P η (G fr (up++[c0])) (re w τ)=.go (G p (m++[c0])) w1 es:=(Kq.imp λφ e=>e [c0]).self (f:=aB X.P η (G fr (up++[c0])));rw[H]at e1;have e2:aB X.P η (G fr (up++base)) (re w τ)=.go (G p (m++base)) w1 es:=(Kq.imp λφ e=>e base).self (f:=aB X.P η (G fr (up++base)));have e3:aB X.P η (G fr (up++base)) (shf wc.tape (w.drawn,d) (re w τ))=.go (G p (m++base)) (shf wc.tape (w.drawn,d) w1) es:=Kq.2.2 _ _ (zG.to _) base;rw[esh]at e3;have out:=Qj S (base:=base) (base':=base) hf hu oW hn hB Z η η;rw[sG,e3,e2]at out;generalize hg:GStep.go (G p (m++base)) w1 es=s at out;cases out with
  | @nice f1 f1' u1 u1' I x1 x1' gW UY e v x y h4 h5 h6 h7 h8=>
   have iL:p=f1/\m++base=u1++base/\w1=x1:=by injection hg with a b c;injection a with z E;exact⟨z,E,b⟩
   obtain⟨rfl,yI,rfl⟩:=iL;obtain rfl:=aY yI;have hee:p=f1'/\m++base=u1'++base/\shf wc.tape (w.drawn,d) w1=x1'/\es=UY:=by injection e with a b c;injection a with z E;exact⟨z,E,b,c⟩
   obtain⟨rfl,JY,rfl,rfl⟩:=hee;obtain rfl:=aY JY;have M:R τ=p/\N τ=m++[c0]/\U τ=w1:=by injection e1 with a b c;injection a with z E;exact⟨z,E,b⟩
   exact⟨p,m,w1,I,es,e3,⟨τ,ha,M.1.symm,M.2.1.symm,M.2.2.symm⟩,v,x,y,h4.le,h7,h8,Ji oW h4 y h6⟩
  |special k1 k2=>cases k2
  | @panic f1 u1 Y x1 gW v x=>
   exfalso;have iL:p={f1 with mode:=.panicking Y}/\m++base=u1++base/\w1=x1:=by injection hg with a b c;injection a with z E;exact⟨z,E,b⟩
   obtain⟨rfl,yI,rfl⟩:=iL;obtain rfl:=aY yI;have M:R τ={f1 with mode:=.panicking Y}/\N τ=m++[c0]/\U τ=w1:=by injection e1 with a b c;injection a with z E;exact⟨z,E,b⟩
   have G9:=hm τ ha;rw[M.1,M.2.1,M.2.2]at G9;exact Nu hQ G9 trivial ⟨_,lc⟩ (ι ⟨_,lc,v,x⟩)
  |ended=>cases hg
 .exact gF H (Kq _ _ _ _)
theorem Yj (sG:X.P'=X.P) (S:X.Set Fb η (λ_=>θ)) (hQ:∀fr cs w,Q fr cs w->∀ch,fr.mode≠.panicking ch):∀{fr:aj} {cs:dw aj} {w:ah},oI X.P Q fr cs w->
  ∀{ρ:Rel} {up base:dw aj} {gs:eD aa} {wc:ah} {sl:gI (bn×bn)} {t:aC} {q:bn->bn},cs=up++[c0]->base≠[]->FR X Fb η ρ fr fr->FsR X Fb η ρ up up->WN X ρ w wc->Same w wc->NB w->Bot (fr::up)->
   gs[0]?=ζ (G fr (up++base))->bi X.P t gs q->kR SB wc gs.size t->wE SB (rng ρ) (own X ρ) wc->
   ∃(N:bn) (p:eD aa) (E:aj) (I:dw aj) (w2 v:ah) (z:gI (bn×bn)) (t':aC) (q':bn->bn) (m:Rel),
    runNT X.P N (crowd gs wc sl) t=(.next (crowd p v z),t')/\Q E (I++[c0]) w2/\p.size=gs.size/\p[0]?=ζ (G E (I++base))/\Same w2 v/\FR X Fb η m E E/\FsR X Fb η m I I/\WN X m w2 v/\ρ.le m/\NB w2/\
     bi X.P t' p q'/\kR SB v p.size t'/\wE SB (rng m) (own X m) v:=by
 intro fr cs w h;induction h with
 | @done fr cs w hq=>rintro ρ up base gs wc sl t q rfl _ Z hu hw hs hn hB R W Y hF;exact⟨0,gs,fr,up,w,wc,sl,t,q,ρ,lc,hq,lc,R,hs,Z,hu,hw,ρ.le_refl,hn,W,Y,hF⟩
 | @step fr cs w nf nc nw ne eG hm ih=>
  rintro ρ up base gs wc sl t q rfl lV Z hu hw hs hn hB R W Y hF;have key:=(X6 (base:=base) sG S hQ eG hm Z hu hw hs hn hB).2;have jR:0<gs.size:=(j5 R).1;obtain⟨N,kI,a1,d,O3,es,jD,t1,q1,hr,J,hz,og,oL,qI,_⟩:=Af (P:=X.P) (SB:=SB) (sl:=sl) R lc W Y λd=>by
   obtain⟨yg,M,w1,ρ1,es,e,_,_,_,_,_,_,_,H⟩:=key d;have V:wE SB (rng ρ) (own X ρ) (wc.at d):=⟨hF.apart,hF.low,hF.own,hF.foot⟩
   have U:=V.step H;exact⟨_,_,es,e,H.size,λx hx=>⟨LZ (H.ev x hx) U.apart U.foot,λy hy=>(P7 (H.ev x hx) hy).1⟩⟩
  obtain⟨yg,M,w1,ρ1,iZ,e,⟨τ,ha,rfl,G8,rfl⟩,h1,h2,h3,hle,h7,h8,H⟩:=key d;rw[e]at J;have iL:G (nf τ) (M++base)=a1/\shf wc.tape (w.drawn,d) (nw τ)=O3/\iZ=es:=by injection J with a b c;exact⟨a,b,c⟩
  obtain⟨rfl,rfl,rfl⟩:=iL;have V:wE SB (rng ρ) (own X ρ) (wc.at d):=⟨hF.apart,hF.low,hF.own,hF.foot⟩
  obtain⟨N',p,E,I,w2,v,z,t',q',m,iJ,hq,Bz,vQ,pM,g1,g2,g3,g4,g5,vN,sH,U⟩:=ih τ ha G8.symm lV h1 h2 (WN.of h3) ⟨lc,lc,lc⟩ h7 h8 og oL qI (V.step H);exact⟨N+N',p,E,I,w2,v,z,t',q',m,runNT_trans _ hr iJ,hq,Bz.trans hz,vQ,pM,g1,g2,g3,ik hle g4,g5,vN,sH,U⟩
end
structure At (X:Cx) (Fb:aL->gJ) (SB:Blocks) (ρ:Rel) (gs:eD aa) (fr:aj) (cs:dw aj) (w:ah) (t:aC) (q:bn->bn):Prop where
 g0:gs[0]?=ζ (G fr cs)
 leavers:bi X.P t gs q
 past:kR SB w gs.size t
 foot:wE SB (rng ρ) (own X ρ) w
 fr:FR X Fb η ρ fr fr
 cs:FsR X Fb η ρ cs cs
 wr:WR X ρ w w
 nb:NB w
def Runs (P:ax) (gs:eD aa) (w:ah) (sl:gI (bn×bn)) (t:aC) (fF:eD aa) (w':ah) (sl':gI (bn×bn)) (t':aC):Prop:= ∃N,runNT P N (crowd gs w sl) t=(.next (crowd fF w' sl'),t')
theorem Runs.trans {P:ax} {c m p:eD aa} {w2 w3:ah} {s1 s2 s3:gI (bn×bn)} {v x y:aC} (h:Runs P c w1 s1 v m w2 s2 x) (k:Runs P m w2 s2 x p w3 s3 y):Runs P c w1 s1 v p w3 s3 y:=by obtain⟨N,h⟩:=h;obtain⟨M,k⟩:=k;exact⟨N+M,runNT_trans _ h k⟩
def CF (b:aj) (k:dw Item):Exit->Act->aj->Prop
 |.normal,a,fr=>fr=b.at a k
 |.exit id,a,fr=>∃k',aM id k=ζ k'/\fr=b.at a k'
 |.ret,a,fr=>∃todo,fr={b.at a todo with mode:=.returning}
 |_,_,_=>fo
def Plain (k:dw Item) (Q:Exit->Act->ah->Prop):Prop:= ∀e a w,Q e a w->match e with
 |.normal|.ret=>True
 |.exit id=>∃k',aM id k=ζ k'
 |_=>fo
def Tgt (b:aj) (k:dw Item) (Q:Exit->Act->ah->Prop) (fr:aj) (cs:dw aj) (w:ah):Prop:=cs=[c0]/\∃e a,Q e a w/\CF b k e a fr
section
variable {X:Cx} {Fb:aL->gJ} {SB:Blocks}
theorem Q6 (S:X.Set Fb η (λ_=>θ)) (c:Inv X Fb η fr [c0] w) (M:Plain k Q) (N:∀e a w wc,Same w wc->Q e a w->Q e a wc)
  (J:∀τ,Agree w τ->∃e a' w',Q e a' w'/\Arrives X.P (lone fr [c0] (re w τ)) b k [c0] e a' w'):oI X.P (Tgt b k Q) fr [c0] w:=by
 refine bar S (λfr cs w h R=>?_) (λfr cs w τ U ha h=>?_) c (λτ ha=>?_)
 .obtain⟨_,e,a,_,m⟩:=h;cases e with
  |normal=>rw[show fr=b.at a k from m];intro h;cases h
  |exit id=>obtain⟨k',_,rfl⟩:=m;intro h;cases h
  |ret=>obtain⟨todo,rfl⟩:=m;intro h;cases h
  |_=>exact m.elim
 .obtain⟨G,e,a,H,I⟩:=h;exact⟨G,e,a,N e a (re w τ) w ⟨lc,lc,lc⟩ H,I⟩
 .obtain⟨e,a',w',y,p⟩:=J τ ha;have z:=M _ _ _ y;have go:∀{E:aj},CF b k e a' E->Steps X.P (lone fr [c0] (re w τ)) (lone E [c0] w')->xZ X.P (Tgt b k Q) fr [c0] (re w τ):=λm v=>by obtain⟨n,hn⟩:=v;exact conv S (Q:=Tgt b k Q) ⟨lc,e,a',y,m⟩ n (ι (c.re τ)) hn
  cases e with
  |normal=>exact go lc p
  |exit id=>obtain⟨k',x⟩:=z;exact go ⟨k',x,lc⟩ (p k' x)
  |ret=>obtain⟨todo,v⟩:=p;exact go ⟨todo,lc⟩ v
  |_=>exact z.elim
theorem piece (sG:X.P'=X.P) (S:X.Set Fb η (λ_=>θ))
  (h:At X Fb SB ρ gs fr cs w t q) (iw:cs≠[]) (ul:fr.roundOf=ε) (mr:Plain k Q) (I:∀e a w wc,Same w wc->Q e a w->Q e a wc)
  (Y:∀τ,Agree w τ->∃e a' w',Q e a' w'/\Arrives X.P (lone fr [c0] (re w τ)) b k [c0] e a' w'):
  ∃(p:eD aa) (e:Exit) (a':Act) (fD:aj) (w':ah) (c:gI (bn×bn)) (t':aC) (y:bn->bn) (J:Rel),
   Runs X.P gs w sl t p w' c t'/\Q e a' w'/\CF b k e a' fD/\p.size=gs.size/\ρ.le J/\At X Fb SB J p fD cs w' t' y:=by
 have E:Bot [fr]:=by intro f G;simp at G;subst G;exact ul
 have v:Inv X Fb η fr [c0] w:=⟨ρ,fr,[],[],w,lc,h.fr,.nil,h.wr,h.nb,E⟩
 have W:=Q6 S v mr I Y;obtain⟨N,p,iG,xW,w2,nA,c,t',y,ρ2,hr,⟨M,e,a',Z,m⟩,hz,vQ,H,R,g2,U,z,V,vN,sH,l8⟩:=Yj sG S (λfr cs w h ch=>by
   obtain⟨_,e,a,_,m⟩:=h;cases e with
   |normal=>rw[show fr=b.at a k from m];intro h;cases h
   |exit id=>obtain⟨k',_,rfl⟩:=m;intro h;cases h
   |ret=>obtain⟨todo,rfl⟩:=m;intro h;cases h
   |_=>exact m.elim) W (up:=[]) lc iw h.fr .nil (WN.of h.wr) (Same.refl w) h.nb E h.g0 h.leavers h.past h.foot
 have hu:xW=[]:=by have:=gU bX M;simp at this;exact List.eq_nil_of_length_eq_zero (by simpa using this)
 subst hu;refine⟨p,e,a',iG,nA,c,t',y,ρ2,⟨N,hr⟩,I _ _ _ _ H Z,m,hz,z,⟨vQ,vN,sH,l8,R,h.cs.mono z,?_,?_⟩⟩;{obtain⟨τ0,_,x⟩:=U;refine⟨x.fn,x.inj,λ{a b} iC=>?_,λ_ _=>lc,λa ha=>gF ha (S.wrs lc a)⟩;obtain⟨o,o',k1,k2,k3⟩:=x.heap iC;exact⟨o,o',by rw[H.heap];exact k1,k2,k3⟩};exact V
end
end
end Ph
namespace Sim
open Go Go.Conc
def stop (n:bn):Item:=.code (.loop (.block n .skip))
mutual
def st:dw Item->dw Item
 |k=>stop k.length::sf k
termination_by k=>2*k.length+1
def sf:dw Item->dw Item
 |[]=>[]
 |.inBlock id::k=>.inBlock id::st k
 |_::k=>sf k
termination_by k=>2*k.length
end
theorem xH (k:dw Item):st k=stop k.length::sf k:=by rw[st]
theorem q1i (id:bn) (k:dw Item):aM id (sf k)=(aM id k).map st:=by
 induction k with
 |nil=>rw[sf];rfl
 |cons a k ih=>
  cases a with
  |inBlock id'=>rw[sf];unfold aM;split;{rfl};rw[xH];show aM id (stop k.length::sf k)=_;rw[<-ih];rfl
  |_=>rw[sf,ih];{rfl};intro _ e;cases e
theorem Ni (id:bn) (k:dw Item):aM id (st k)=(aM id k).map st:=by rw[xH,<-q1i];rfl
theorem Nv (id:bn) (k:dw Item):∀u,aM id (u++k)=((aM id u).map (· ++k)).or (aM id k)
 |[]=>by simp[aM]
 |a::u=>by
  cases a with
  |inBlock id'=>
   show aM id (.inBlock id'::(u++k))=_;have e:∀l,aM id (.inBlock id'::l)=if id'==id then ζ l else aM id l:=λl=>lc
   rw[e,e];split;{simp};rw[Nv id k u]
  |_=>exact Nv id k u
theorem Yq {id:bn}:∀{k k':dw Item},aM id k=ζ k'->k' <:+ k
 |[],_,h=>by cases h
 |a::k,k',h=>by
  have key:∀{c},aM id k=ζ c->c <:+ a::k:=λh=>(Yq h).trans (List.suffix_cons a k);cases a with
  |inBlock id'=>unfold aM at h;split at h;{cases h;exact List.suffix_cons _ _};exact key h
  |_=>exact key h
theorem jht {c m:dw Item} (p:c <:+ k) (v:m <:+ k) (h:st c=st m):c=m:=by rw[xH,xH]at h;injection h with h _;injection h with h;injection h with h;injection h with h _;exact(List.suffix_of_suffix_length_le p v (Nat.le_of_eq h)).eq_of_length h
theorem Yi (P c:ax) (Fb:aL->gJ) (wr:gJ) (n:bn):codeOk P c Fb wr (.loop (.block n .skip))=η:=rfl
section
variable {X:Cx} {Fb:aL->gJ} {wr:gJ} {sp:aL->gJ} {ρ:Rel}
theorem IsR.sf (X:Cx) (Fb:aL->gJ) (wr:gJ) (ρ:Rel):∀k,IsR X Fb wr ρ (sf k) (sf k)
 |[]=>by rw[Sim.sf];exact .nil
 |a::k=>by
  have c:=IsR.sf X Fb wr ρ k;cases a with
  |inBlock id=>rw[Sim.sf,xH];exact .cons (.inBlock id) (.cons (.code (Yi _ _ _ _ _)) c)
  |_=>rw[Sim.sf];{exact c};intro _ e;cases e
theorem IsR.st (X:Cx) (Fb:aL->gJ) (wr:gJ) (ρ:Rel) (k:dw Item):IsR X Fb wr ρ (st k) (st k):=by rw[xH];exact .cons (.code (Yi _ _ _ _ _)) (IsR.sf X Fb wr ρ k)
end
def Sim.bare (o:Oper):Oper:={o with guard:=ε}
inductive TS (k:dw Item) (tm:eD aG):dw Item->dw Item->Prop
 |code (a:Item) (u:dw Item):TS k tm (a::u++st k) (a::u++k)
 |op {ops:eD Oper} {i:bn} {td:dw bn} {k0:dw Item} {o:Oper}:k=π ops td::k0->ops[i]?=ζ o->aE o (bF ops tm)=η->
   TS k tm (π #[Sim.bare o] [0]::st k) (π ops (i::td)::k0)
def wt (f:aj) (t:dw Item):aj:={f with todo:=t}
inductive Sw (k:dw Item):aj->dw aj->aj->dw aj->Prop
 |bot {f:aj} {t t':dw Item}:TS k f.tmps t t'->Sw k (wt f t) [] (wt f t') []
 |ret {f:aj} {t t':dw Item}:f.mode=.returning->Sw k (wt f t) [] (wt f t') []
 |above {g:aj} {up:dw aj} {f:aj} {t t':dw Item}:TS k f.tmps t t'->Sw k g (up++[wt f t]) g (up++[wt f t'])
inductive Ld (k:dw Item):aj->aj->Prop
 |land {f:aj} {k':dw Item}:k'=k\/(∃id,aM id k=ζ k')->Ld k (wt f (st k')) (wt f k')
 |late {f:aj} {o:Oper}:Ld k (wt f (π #[o] []::st k)) (wt f k)
inductive Aft (k:dw Item):aj->dw aj->aj->dw aj->Prop
 |sw {fr gr:aj} {up gup:dw aj}:Sw k fr up gr gup->Aft k fr up gr gup
 |ld {fr gr:aj}:Ld k fr gr->Aft k fr [] gr []
 |panic {fr gr:aj} {ch:dw PanicEntry}:fr.mode=.panicking ch->Aft k fr [] gr []
def jr (k:dw Item) (base:dw aj) (s s':GStep):Prop:=
 (∃yg up1 vR sS w1 es,s=.go (G yg (up1++base)) w1 es/\s'=.go (G vR (sS++base)) w1 es/\Aft k yg up1 vR sS)\/∀g1 w1 es,s≠.go g1 w1 es
theorem jr.ended {base:dw aj} {o:Outcome} {s':GStep}:jr k base (.ended o w es) s':=κ λ_ _ _ e=>by cases e
theorem jr.after {base:dw aj} {es0:eD bG} {s s':GStep} (h:jr k base s s'):jr k base (GStep.after es0 s) (GStep.after es0 s'):=by rcases h with⟨z,c,x,v,w1,es,rfl,rfl,h⟩|h;{exact ι ⟨z,c,x,v,w1,es0++es,lc,lc,h⟩};refine κ λm w1 es e=>?_;obtain⟨y,p,_⟩:=Xz e;exact h m w1 y p
theorem jr.to {base:dw aj} (f:aj) (u:dw Item) (w:ah) (es:eD bG):jr k base (.go (G (wt f (u++st k)) base) w es) (.go (G (wt f (u++k)) base) w es):=by
 refine ι ⟨wt f (u++st k),[],wt f (u++k),[],w,es,lc,lc,?_⟩;cases u with
 |nil=>exact .ld (.land (ι lc))
 |cons a u=>exact .sw (.bot (.code a u))
theorem jr.ret {k:dw Item} {base:dw aj} (f:aj) (t t':dw Item) (c:f.mode=.returning) (w:ah) (es:eD bG):jr k base (.go (G (wt f t) base) w es) (.go (G (wt f t') base) w es):=
 ι ⟨wt f t,[],wt f t',[],w,es,lc,lc,.sw (.ret c)⟩
theorem jr.panic {k:dw Item} {base:dw aj} {f g:aj} {ch:dw PanicEntry} (c:f.mode=.panicking ch) {w:ah} {es:eD bG}:jr k base (.go (G f base) w es) (.go (G g base) w es):=
 ι ⟨f,[],g,[],w,es,lc,lc,.panic c⟩
section
variable {X:Cx} {Fb:aL->gJ} {wr:gJ} {sp:aL->gJ} {ρ:Rel}
def V5:dw Item->Prop
 |.call _ _ _ _::_=>fo
 |_=>True
theorem MJ {base:dw aj} {t:dw Item} (I:WR X ρ w w') (W:f.mode=.run) (V:f.kind=.normal) (G:V5 t) (y:V5 t')
  (x:∀v,Aft k ((wt f t).finish v) [] ((wt f t').finish v) []) (z:TS k f.tmps t t')
  {s s':Sem Next} (H:SS X ρ s s' (λM n J=>NR X M n J)):jr k base (bY X.P η (wt f t) base ε s w) (bY X.P η (wt f t') base ε s w):=by
 have E:((wt f t).kind==cK)=θ:=by show(f.kind==_)=_;rw[V];rfl
 have N:((wt f t').kind==cK)=θ:=E;have Z:(match(wt f t).todo with|.call _ η _ _::_=>bD|_=>.normal)=.normal:=by show(match t with|.call _ η _ _::_=>bD|_=>.normal)=.normal;split;{exact G.elim};rfl
 have Y:(match(wt f t').todo with|.call _ η _ _::_=>bD|_=>.normal)=.normal:=by show(match t' with|.call _ η _ _::_=>bD|_=>.normal)=.normal;split;{exact y.elim};rfl
 rcases hr:s.runT X.P w #[]with⟨r,R⟩
 unfold bY;simp only[je,hr,E,N,Bool.false_eq_true,if_false,Z,Y];cases r with
 |halt h wx=>
  have c:s.run X.P w=.halt h wx:=by rw[<-Sem.runT_fst X.P s w #[],hr]
  obtain⟨p,-⟩:=H.2 w w' h wx I c;cases h with
  |panic v=>refine jr.after (jr.panic (ch:=[{v,recovered:=θ}]) ?_);show((wt f t).raise _).mode=_;unfold Frame.raise;rw[show(wt f t).mode=.run from W]
  |unsupported u=>
   cases u with
   |initOrder b=>exact p.elim
   |_=>exact jr.after jr.ended
  |stuck m=>exact jr.after jr.ended
  |_=>exact p.elim
 |ok n wx=>
  have c:s.run X.P w=.ok n wx:=by rw[<-Sem.runT_fst X.P s w #[],hr]
  obtain⟨M,J,gN,gW,h1,h2,h3,h4,h5,U,h7⟩:=H.1 w w' n wx #[] I c;cases U with
  |value h=>exact jr.after (ι ⟨_,[],_,[],_,_,lc,lc,x _⟩)
  |skip=>exact jr.after (ι ⟨_,[],_,[],_,_,lc,lc,x _⟩)
  | @enter g gZ iP _ _=>refine jr.after (ι ⟨Frame.enter X.P g gZ .normal,[wt f t],Frame.enter X.P g gZ .normal,[wt f t'],wx,#[],?_,?_,.sw (.above (up:=[]) z)⟩);{rcases t with _|⟨i,l⟩;{rfl};cases i<;>first|rfl|exact G.elim};rcases t' with _|⟨i,l⟩;{rfl};cases i<;>first|rfl|exact y.elim
  |round _ _ _ _ _=>exact jr.after (ι ⟨_,[wt f t],_,[wt f t'],_,_,lc,lc,.sw (.above (up:=[]) z)⟩)
theorem Me (h:ops[i]?=ζ o) (m:f.roundOf=ε) (base:dw aj) (w:ah):
  bQ X.P η (wt f (π ops (i::td)::l)) base ε w=bY X.P η (wt f (π ops (i::td)::l)) base ε (aJ f.eval o) w:=by
 have c:(wt f (π ops (i::td)::l)).oper?=ζ o:=h;have e:(wt f (π ops (i::td)::l)).eval=f.eval:=by funext x;cases x<;>rfl
 unfold bQ;rw[c];dsimp only;rw[e];have p:(wt f (π ops (i::td)::l)).roundOf=ε:=m;rw[p]
theorem Xq {P:ax} {m:gJ} (h:((ops[i]?).map (aE · (bF ops f.tmps))).getD θ=η) (base:dw aj) (w:ah):
  aH P m η (wt f (π ops (i::td)::l)) base ε w=bQ P η (wt f (π ops (i::td)::l)) base ε w:=by
 unfold aH;exact jC h
theorem Xr {P:ax} {m:gJ} (h:¬((ops[i]?).map (aE · (bF ops f.tmps))).getD θ=η) (base:dw aj) (w:ah):
  aH P m η (wt f (π ops (i::td)::l)) base ε w=.go (G ((wt f (π ops (i::td)::l)).finish ae) base) w #[]:=by
 unfold aH;exact iO h
theorem QT {u:dw Item} (v:aG):
  Aft k ((wt f (π ops (i::td)::u++st k)).finish v) [] ((wt f (π ops (i::td)::u++k)).finish v) []:=
 .sw (.bot (f:={f with tmps:=match(ops[i]?).bind (·.dst)with
        |some d=>f.tmps.setIfInBounds d v
        |none=>f.tmps}) (.code (π ops td) u))
theorem Xm {c:dw Item} (h:k=π ops td::c) (m:ops[i]?=ζ o) (v:aG):
  Aft k ((wt f (π #[Sim.bare o] [0]::st k)).finish v) [] ((wt f (π ops (i::td)::c)).finish v) []:=by
 have e:(wt f (π ops (i::td)::c)).finish v=wt {f with tmps:=match o.dst with
        |some d=>f.tmps.setIfInBounds d v
        |none=>f.tmps} k:=by
  show(Frame.mk _ _ _ _ _ _ _:aj)=_;subst h;unfold wt;simp only[m,Option.bind_some];rfl
 rw[e];exact .ld (.late (f:={f with tmps:=match o.dst with
        |some d=>f.tmps.setIfInBounds d v
        |none=>f.tmps}) (o:=Sim.bare o))
theorem jaw (S:X.Set Fb wr sp) {base:dw aj} {t:dw Item} (Og:TS k f.tmps t t') (H:FR X Fb wr ρ (wt f t) fD) (V:WR X ρ w w') (M:f.mode=.run) (m:gJ) (E:f.roundOf=ε):
  jr k base (aH X.P m η (wt f t) base ε w) (aH X.P m η (wt f t') base ε w):=by
 have U:f.kind=.normal:=H.kind;have iH:=H.eval S;have iY:∀c,codeOk X.P X.P' Fb wr c=η->X.C c:=λc h=>(S.c c).2 h;have R:∀t,(wt f t).eval=f.eval:=λt=>by funext x;cases x<;>rfl
 cases Og with
 | @op ops i td k0 o e ho fq=>
  have su:aE (Sim.bare o) (bF #[Sim.bare o] f.tmps)=η:=lc;have N:IsR X Fb wr ρ (π #[Sim.bare o] [0]::st k) fD.todo:=H.todo;have Z:kJ X.P X.P' Fb wr (Sim.bare o)=η:=by
   generalize fD.todo=tf at N;cases N with
   |cons a b=>cases a with
    |inRegion td c=>exact Mk c (i:=0) lc
  have ex:aJ f.eval (Sim.bare o)=aJ f.eval o:=lc;have e1:aH X.P m η (wt f (π #[Sim.bare o] [0]::st k)) base ε w=bQ X.P η (wt f (π #[Sim.bare o] [0]::st k)) base ε w:=by unfold aH;exact jC su
  have e2:aH X.P m η (wt f (π ops (i::td)::k0)) base ε w=bQ X.P η (wt f (π ops (i::td)::k0)) base ε w:=by unfold aH;refine jC ?_;show((ops[i]?).map (aE · (bF ops f.tmps))).getD θ=η;rw[ho];exact fq
  rw[e1,e2,Me (o:=Sim.bare o) lc E,Me ho E,ex];refine MJ (t:=π #[Sim.bare o] [0]::st k) (t':=π ops (i::td)::k0) V M U trivial trivial (λv=>Xm e ho v) (.op e ho fq) ?_ (s':=aJ fD.eval (Sim.bare o));rw[<-ex,<-R];exact SS.execOp S.ok wr S.wrs _ Z _ _ iH
 | @code a u=>
  have N:IsR X Fb wr ρ (a::(u++st k)) fD.todo:=H.todo;show jr k base (aH X.P m η (wt f (a::(u++st k))) base ε w) (aH X.P m η (wt f (a::(u++k))) base ε w);generalize htd:fD.todo=tf at N;cases N with
  | @cons _ i' _ l' a b=>
  unfold aH;cases a with
  |inBlock id=>exact jr.to f u w #[]
  | @inLoop c=>exact jr.to f (.code c::.inLoop c::u) w #[]
  |inRangeFunc r=>exact jr.ended
  |beginRound=>
   have ZX:∀t,(wt f t).roundOf=ε:=λ_=>E;dsimp only;rw[ZX,ZX];refine MJ (t:=.beginRound::u++st k) (t':=.beginRound::u++k) V M U trivial trivial (λv=>?_) (.code .beginRound u) (gz (jf.nE (jf.stuck _)):SS X ρ _ (do(none.elim (Go.stuck "beginRound: no round") Instr.beginRound:Sem Unit);Pure.pure .skip) _);cases u with
   |nil=>exact .ld (.land (f:=f) (ι lc))
   |cons a u=>exact .sw (.bot (f:=f) (.code a u))
  | @endRangeFunc l l' r=>
   dsimp only[wt];generalize (Instr.endLoop l).runT X.P w #[]=p0;obtain⟨r0,Y⟩:=p0;cases r0 with
   |halt h I=>
    cases h with
    |panic v=>refine jr.after (jr.panic (ch:=[{v,recovered:=θ}]) ?_);unfold Frame.raise;simp only[M]
    |_=>exact jr.after jr.ended
   |ok j I=>refine jr.after ?_;have:=jr.to (k:=k) (base:=base) f ((j.map Item.code).toList++u) I #[];rw[aW,aW]at this;exact this
  | @inRegion ops td c=>
   cases td with
   |nil=>exact jr.to f u w #[]
   |cons i td=>
    show jr k base (aH X.P m η (wt f (π ops (i::td)::(u++st k))) base ε w) (aH X.P m η (wt f (π ops (i::td)::(u++k))) base ε w);by_cases fq:((ops[i]?).map (aE · (bF ops f.tmps))).getD θ=η
    .rw[Xq fq,Xq fq];cases ho:ops[i]? with
     |none=>rw[ho]at fq;cases fq
     |some o=>have Z:=Mk c ho;rw[Me ho E,Me ho E];refine MJ (t:=π ops (i::td)::u++st k) (t':=π ops (i::td)::u++k) V M U trivial trivial (λv=>QT (u:=u) v) (.code (π ops (i::td)) u) ?_ (s':=aJ fD.eval o);rw[<-R];exact SS.execOp S.ok wr S.wrs o Z _ _ iH
    .rw[Xr fq,Xr fq];exact ι ⟨_,[],_,[],_,_,lc,lc,QT (u:=u) ae⟩
  | @code c hc=>
   cases c with
   |skip=>exact jr.to f u w #[]
   |ret=>dsimp only[wt];simp only[E,je];rw[<-E];exact jr.ret {f with mode:=.returning} (.code .ret::(u++st k)) (.code .ret::(u++k)) lc w #[]
   |seq x y=>exact jr.to f (.code x::.code y::u) w #[]
   |cond x y z=>have J:∀t,Frame.eval {f with todo:=t} x=f.eval x:=λt=>congrFun (R t) x;dsimp only[wt];rw[J (.code (.cond x y z)::(u++st k)),J (.code (.cond x y z)::(u++k))];generalize f.eval x=v;cases v<;>first|exact jr.ended|exact jr.to f (.code _::u) w #[]
   |block id c=>exact jr.to f (.code c::.inBlock id::u) w #[]
   |loop c=>exact jr.to f (.code c::.inLoop c::u) w #[]
   |exit id=>
    dsimp only[wt];simp only[E];rw[<-E,Nv,Nv,Ni];cases h1:aM id u with
    |some u'=>exact jr.to f u' w #[]
    |none=>
     cases h2:aM id k with
     |some k'=>exact ι ⟨wt f (st k'),[],wt f k',[],w,#[],lc,lc,.ld (.land (κ ⟨id,h2⟩))⟩
     |none=>exact jr.ended
   |region id ops draw=>
    cases draw with
    |false=>exact jr.to f (π ops _::u) w #[]
    |true=>dsimp only[wt];simp only[Bool.not_true,Bool.false_eq_true,if_false];rcases hr:(choose (.order f.fn id)).run X.P w with⟨t,I⟩|⟨h,I⟩;{exact jr.to f (π ops _::u) I #[]};exact jr.ended
   |rangeFunc g params assign body=>
    simp only[codeOk,Bool.and_eq_true]at hc;obtain⟨mX,pR,Km⟩:=hc;have hG:X.G f.fn:=H.same;have hfl:xD ρ f.roundOf fD.roundOf:=H.round;have Hr:=SS.enterLoop hG (show vw X.F ρ f.tmps.toList fD.tmps.toList from H.tmps) params (iY _ pR) (iY _ Km) hfl;dsimp only[wt];generalize hr:(Instr.enterLoop f.fn f.tmps params assign body f.roundOf).runT X.P w #[]=p0;obtain⟨r0,Y⟩:=p0;cases r0 with
    |halt h I=>exact jr.after jr.ended
    |ok p I=>
     obtain⟨W,mark⟩:=p;obtain⟨ρ1,p',gN,gW,h1,h2,h3,h4,h5,⟨h6,BQ⟩,h7⟩:=Bb Hr V hr;obtain⟨NG,vX⟩:=p';dsimp only at h6 BQ;have UE:EvR X.F Fb ρ1 f.eval fD.eval:=by have:=(H.mono h3.le).eval S;rw[R]at this;exact this
     exact jr.after (MJ (f:={f with defers:=mark++f.defers}) (t:=.inRangeFunc W::u++st k) (t':=.inRangeFunc W::u++k) h2 M U trivial trivial
      (λv=>.sw (.bot (f:={f with defers:=mark++f.defers}) (.code (.endRangeFunc W) u))) (.code (.inRangeFunc W) u) (SS.iterate S.ok (λ_=>lc) (λ_=>lc) (UE.1 g mX) h6))
   |_=>simp[codeOk]at hc
theorem qxb {t:dw Item} (h:TS k f.tmps t t') (v:aG):Aft k ((wt f t).finish v) [] ((wt f t').finish v) []:=by
 cases h with
 |op e ho hw=>exact Xm e ho v
 |code a u=>
  cases a with
  |inRegion ops td=>
   cases td with
   |nil=>exact .sw (.bot (f:=f) (.code (π ops []) u))
   |cons i td=>exact QT (u:=u) v
  |inRangeFunc l=>exact .sw (.bot (f:=f) (.code (.endRangeFunc l) u))
  |beginRound=>
   cases u with
   |nil=>exact .ld (.land (f:=f) (ι lc))
   |cons a u=>exact .sw (.bot (f:=f) (.code a u))
  |call d wrapper resume saved=>exact .sw (.bot (f:=f) (.code _ u))
  |code c=>exact .sw (.bot (f:=f) (.code (.code c) u))
  |inBlock id=>exact .sw (.bot (f:=f) (.code (.inBlock id) u))
  |inLoop c=>exact .sw (.bot (f:=f) (.code (.inLoop c) u))
  |inScope c=>exact .sw (.bot (f:=f) (.code (.inScope c) u))
  |endRangeFunc c=>exact .sw (.bot (f:=f) (.code (.endRangeFunc c) u))
  |_=>
   cases u with
   |nil=>exact .ld (.land (f:={f with tmps:=#[v]}) (ι lc))
   |cons a u=>exact .sw (.bot (f:={f with tmps:=#[v]}) (.code a u))
theorem q29 {base:dw aj} {t:dw Item} (p:FR X Fb wr ρ (wt f t) fD) (z:f.mode=.returning) (m:gJ) (y:f.defers≠[]):
  jr k base (unwind X.P m (wt f t) base ε w) (unwind X.P m (wt f t') base ε w):=by
 obtain⟨fn,tmps,todo,defers,mode,kind,H⟩:=f;obtain rfl:mode=.returning:=z;obtain rfl:kind=.normal:=p.kind;have c:DsR ρ defers fD.defers:=p.defers;generalize fD.defers=ds at c;cases c with
 |nil=>exact gF lc y
 | @cons r r' l l' a b=>
  unfold unwind wt;dsimp only;generalize (Instr.takeDeferred r).runT X.P w #[]=E;obtain⟨G,x⟩:=E;cases G with
  |halt h wx=>exact jr.after jr.ended
  |ok v wx=>exact jr.after (jr.ret ⟨fn,tmps,[],_,.returning,.normal,H⟩ t t' lc wx #[])
theorem jc1 (S:X.Set Fb wr sp) {base:dw aj} {gup:dw aj} (E:Sw k fr up gr gup) (p:FR X Fb wr ρ fr fD) (z:WR X ρ w w') (m:gJ) (H:Bot (fr::up)) (y:fr.mode=.run\/fr.defers≠[]\/up≠[]):
  jr k base (aB X.P m (G fr (up++base)) w) (aB X.P m (G gr (gup++base)) w):=by
 have ret:∀{f:aj} {t t':dw Item},f.mode=.returning->FR X Fb wr ρ (wt f t) fD->f.defers≠[]->jr k base (aB X.P m (G (wt f t) base) w) (aB X.P m (G (wt f t') base) w):=λ{f t t'} hm p I=>by rw[Ae _ _ _ _ _ (show(wt f t).mode=.returning from hm),Ae _ _ _ _ _ (show(wt f t').mode=.returning from hm)];exact q29 p hm m I
 cases E with
 | @ret f t t' hm=>refine ret hm p ?_;rcases y with h|h|h;{rw[show(wt f t).mode=.returning from hm]at h;cases h};{exact h};exact gF lc h
 | @bot f t t' h=>rcases p.run with hm|hm;{have hm:f.mode=.run:=hm;have J:f.roundOf=ε:=H (wt f t) (by simp);show jr k base (aB X.P m (G (wt f t) base) w) (aB X.P m (G (wt f t') base) w);rw[CX _ _ _ _ _ (show(wt f t).mode=.run from hm),CX _ _ _ _ _ (show(wt f t').mode=.run from hm)];exact jaw S h p z hm m J};have hm:f.mode=.returning:=hm;refine ret hm p ?_;rcases y with h|h|h;{rw[show(wt f t).mode=.returning from hm]at h;cases h};{exact h};exact gF lc h
 | @above _ up f t t' h=>
  rw[aW,aW];have go:∀{x:aj} {c:dw aj} {w1:ah} {es:eD bG},(∀base,aB X.P m (G fr (up++base)) w=.go (G x (c++base)) w1 es)->
    jr k base (aB X.P m (G fr (up++([wt f t]++base))) w) (aB X.P m (G fr (up++([wt f t']++base))) w):=λ{x c w1 es} e=>
   ι ⟨x,c++[wt f t],x,c++[wt f t'],w1,es,by rw[e,aW],by rw[e,aW],.sw (.above h)⟩
  by_cases hu:up=[];{subst hu;rcases O9 S p z m with⟨x,c,w1,es,e⟩|⟨_,v,w1,es,e⟩|e;{exact go λbase=>(e.imp λφ e=>e base).self (f:=aB X.P m (G fr base))};{exact ι ⟨_,[],_,[],w1,es,(e.imp λφ e=>e _ _).self (f:=aB X.P m (G fr _)),(e.imp λφ e=>e _ _).self (f:=aB X.P m (G fr _)),qxb h v⟩};exact κ (e _)};rcases ZB S p z m (λ_=>hu) (κ (κ hu))with⟨x,c,w1,es,e⟩|e;{exact go λbase=>(e.imp λφ e=>e base).self (f:=aB X.P m (G fr (up++base)))};exact κ (e _)
end
end Sim
namespace Ph
open Go Go.Conc Go.ConcN Sim
section
variable {X:Cx} {Fb:aL->gJ} {SB:Blocks} {Q:aj->dw aj->ah->Prop}
inductive Ej (n:bn):dw Item->Prop
 |a (r:dw Item):Ej n (.code (.block n .skip)::.inLoop (.block n .skip)::r)
 |b (r:dw Item):Ej n (.code .skip::.inBlock n::.inLoop (.block n .skip)::r)
 |c (r:dw Item):Ej n (.inBlock n::.inLoop (.block n .skip)::r)
 |d (r:dw Item):Ej n (.inLoop (.block n .skip)::r)
def A7 (k:dw Item) (Q:aj->dw aj->ah->Prop):Prop:= ∀fr cs w,Q fr cs w->cs=[c0]/\(fr.mode=.returning\/(fr.mode=.run/\∃k',fr.todo=st k'/\(k'=k\/∃id,aM id k=ζ k')))
theorem A7.mode (h:A7 k Q):∀fr cs w,Q fr cs w->∀c,fr.mode≠.panicking c:=λfr cs w m c e=>by rcases(h _ _ _ m).2 with h|⟨h,_⟩<;>rw[e]at h<;>cases h
theorem qxt (x:A7 k Q):∀{fr:aj} {cs:dw aj} {w:ah},oI X.P Q fr cs w->fr.mode=.run->Ej n fr.todo->fo:=by
 intro fr cs w h;induction h with
 | @done fr cs w hq=>intro v p;rcases(x _ _ _ hq).2 with h|⟨_,k',h,_⟩;{rw[v]at h;cases h};rw[h,xH]at p;cases p
 | @step fr cs w nf nc nw ne hs _ ih=>
  intro v p;have m:aB X.P η (G fr cs) w=.go (G (nf w.tape) (nc w.tape)) (nw w.tape) (ne w.tape):=hs w.tape (λ_ _ _=>lc);rw[CX _ _ _ _ _ v]at m;have fin:∀{t:dw Item},aH X.P η η fr cs ε w=.go (G (wt fr t) cs) w #[]->Ej n t->fo:=λ{t} e y=>by rw[e]at m;injection m with m _ _;injection m with m _;refine ih w.tape (λ_ _ _=>lc) ?_ ?_;{rw[<-m];exact v};rw[<-m];exact y
  obtain⟨fn,tmps,todo,defers,mode,kind,z⟩:=fr;change Ej n todo at p;cases p with
  |a r=>exact fin lc (.b r)
  |b r=>exact fin lc (.c r)
  |c r=>exact fin lc (.d r)
  |d r=>exact fin lc (.a r)
theorem XE (p:A7 k Q) (h:oI X.P Q (wt f (st k')) cs w) (m:f.mode=.run):Q (wt f (st k')) cs w:=by
 generalize v:wt f (st k')=fr at h;cases h with
 |done hq=>exact hq
 |step nf nc nw ne hs hn=>exfalso;have c:aB X.P η (G fr cs) w=.go (G (nf w.tape) (nc w.tape)) (nw w.tape) (ne w.tape):=hs w.tape (λ_ _ _=>lc);subst v;rw[CX _ _ _ _ _ (show(wt f (st k')).mode=.run from m),xH]at c;have e:aH X.P η η (wt f (stop k'.length::sf k')) cs ε w=.go (G (wt f (.code (.block k'.length .skip)::.inLoop (.block k'.length .skip)::sf k')) cs) w #[]:=lc;rw[e]at c;injection c with c _ _;injection c with c _;refine qxt p (n:=k'.length) (hn w.tape (λ_ _ _=>lc)) ?_ ?_;{rw[<-c];exact m};rw[<-c];exact .a _
theorem q13 (p:A7 k Q) (h:oI X.P Q (wt f (π #[o] []::st k)) cs w) (m:f.mode=.run):Q (wt f (st k)) cs w:=by
 generalize v:wt f (π #[o] []::st k)=fr at h;cases h with
 |done hq=>exfalso;subst v;rcases(p _ _ _ hq).2 with h|⟨_,k',h,_⟩;{have h:f.mode=.returning:=h;rw[m]at h;cases h};have h:Item.inRegion #[o] []::st k=st k':=h;rw[xH k']at h;injection h with h _;cases h
 |step nf nc nw ne hs hn=>have c:aB X.P η (G fr cs) w=.go (G (nf w.tape) (nc w.tape)) (nw w.tape) (ne w.tape):=hs w.tape (λ_ _ _=>lc);subst v;rw[CX _ _ _ _ _ (show(wt f (π #[o] []::st k)).mode=.run from m)]at c;have e:aH X.P η η (wt f (π #[o] []::st k)) cs ε w=.go (G (wt f (st k)) cs) w #[]:=lc;rw[e]at c;injection c with c x _;injection c with c y;have:=hn w.tape (λ_ _ _=>lc);rw[<-c,<-x,<-y]at this;exact XE p this m
inductive Way (k:dw Item):aj->aj->Prop
 |land {f:aj} {k':dw Item}:f.mode=.run->(k'=k\/∃id,aM id k=ζ k')->Way k (wt f (st k')) (wt f k')
 |ret {f:aj} {t t':dw Item}:f.mode=.returning->Way k (wt f t) (wt f t')
theorem q2v (h:k'=k\/∃id,aM id k=ζ k'):(st k').length<=(st k).length:=by
 rcases h with rfl|⟨id,h⟩;{exact jg _}
 .have:∀k,aM id k=ζ k'->(st k').length<=(sf k).length:=by
   intro k;induction k with
   |nil=>intro h;cases h
   |cons a k ih=>
    cases a with
    |inBlock id'=>
     intro h;have e:aM id (.inBlock id'::k)=if id'==id then ζ k else aM id k:=lc
     rw[e]at h;rw[sf];split at h;{cases h;simp};have:=ih h;rw[xH k];simp;omega
    |_=>intro h;rw[sf];{exact ih h};intro _ e;cases e
  have:=this k h;rw[xH k];simp;omega
theorem A7.out (x:A7 k Q) {gup:dw aj} (p:Sw k fr up gr gup) (z:Q fr (up++[c0]) w):up=[]/\gup=[]/\Way k fr gr:=by
 obtain⟨y,c⟩:=x _ _ _ z;cases p with
 |ret m=>exact⟨lc,lc,.ret m⟩
 | @above up f t t' h=>have:=gU bX y;simp at this
 | @bot f t t' h=>
  rcases c with c|⟨m,k',c,E⟩;{exact⟨lc,lc,.ret c⟩}
  .exfalso;have c:t=st k':=c;cases h with
   |code a u=>have v:=gU bX c;have G:=q2v E;simp at v;omega
   |op _ _ _=>rw[xH k']at c;injection c with h _;cases h
theorem LW (c:FR X Fb η ρ fr fr):FR X Fb η ρ (wt fr []) (wt fr []):=⟨c.fn,c.same,c.tmps,.nil,c.defers,c.mode,c.run,c.kind,c.kind',c.round⟩
theorem WR.self {Fb:aL->gJ} {sp:aL->gJ} (S:X.Set Fb η sp) {wc:ah} (m:WN X ρ w wc) (h:Same w wc) (d:bn):WR X ρ (wc.at d) (wc.at d):=by obtain⟨E,_,c⟩:=m;refine⟨c.fn,c.inj,λ{a b} p=>?_,λ_ _=>lc,λa ha=>gF ha (S.wrs lc a)⟩;obtain⟨o,z,v,x,y⟩:=c.heap p;exact⟨o,z,by show wc.heap[a]?=_;rw[h.heap];exact v,x,y⟩
def VX (X:Cx) (Fb:aL->gJ) (SB:Blocks) (k:dw Item) (Q:aj->dw aj->ah->Prop) (ρ:Rel) (gs:eD aa) (base:dw aj) (wc:ah) (sl:gI (bn×bn)) (t:aC):Prop:=
 ∃(N:bn) (fF:eD aa) (iG Du:aj) (w2 nA:ah) (sl':gI (bn×bn)) (t':aC) (q':bn->bn) (ρ2:Rel),
    runNT X.P N (crowd gs wc sl) t=(.next (crowd fF nA sl'),t')/\Q iG [c0] w2/\Way k iG Du/\fF.size=gs.size/\fF[0]?=ζ (G Du base)/\Same w2 nA/\FR X Fb η ρ2 (wt iG []) (wt iG [])/\WN X ρ2 w2 nA/\ρ.le ρ2/\NB w2/\
     bi X.P t' fF q'/\kR SB nA fF.size t'/\wE SB (rng ρ2) (own X ρ2) nA
theorem qtw (sG:X.P'=X.P) (S:X.Set Fb η (λ_=>θ)) (R:A7 k Q):∀{fr:aj} {cs:dw aj} {w:ah},oI X.P Q fr cs w->
  ∀{ρ:Rel} {gr:aj} {up gup base:dw aj} {gs:eD aa} {wc:ah} {sl:gI (bn×bn)} {t:aC} {q:bn->bn},cs=up++[c0]->Sw k fr up gr gup->FR X Fb η ρ fr fr->FsR X Fb η ρ up up->WN X ρ w wc->Same w wc->NB w->Bot (fr::up)->
   gs[0]?=ζ (G gr (gup++base))->bi X.P t gs q->kR SB wc gs.size t->wE SB (rng ρ) (own X ρ) wc->
   VX X Fb SB k Q ρ gs base wc sl t:=by
 intro fr cs w h;induction h with
 | @done fr cs w v=>rintro ρ gr up gup base gs wc sl t q rfl BG hf hu hw hs hn hB Z hL hP hF;obtain⟨rfl,rfl,ho⟩:=R.out BG v;exact⟨0,gs,fr,gr,w,wc,sl,t,q,ρ,lc,v,ho,lc,Z,hs,LW hf,hw,ρ.le_refl,hn,hL,hP,hF⟩
 | @step fr cs w nf nc nw ne eG hm ih=>
  rintro ρ gr up gup base gs wc sl t q rfl BG hf hu hw hs hn hB Z hL hP hF;obtain⟨hgo,key⟩:=X6 sG S R.mode eG hm hf hu hw hs hn hB;have KX:∀d,∃E m H sS w1 p es,aB X.P η (G gr (gup++base)) (wc.at d)=.go (G H (sS++base)) (shf wc.tape (w.drawn,d) w1) es/\Aft k E m H sS/\
    (∃τ,(Agree w τ)/\E=nf τ/\m++[c0]=nc τ/\w1=nw τ)/\FR X Fb η p E E/\FsR X Fb η p m m/\WR X p w1 (shf wc.tape (w.drawn,d) w1)/\ρ.le p/\NB w1/\Bot (E::m)/\
    qC (rng ρ) (own X ρ) (wc.at d) (rng p) (own X p) (shf wc.tape (w.drawn,d) w1) es:=λd=>by
   obtain⟨E,m,w1,p,es,e,hτ,I,h2,V,z,W,h8,J⟩:=key d;have hwz:=WR.self S hw hs d;rcases jc1 S (base:=base) BG hf hwz η hB hgo with⟨iG,xW,Du,UU,w2,vS,e1,e2,ha⟩|fO;{rw[e]at e1;injection e1 with U a2 a3;injection U with U a4;obtain rfl:=U;obtain rfl:=aY a4;obtain rfl:=a2;obtain rfl:=a3;exact⟨E,m,Du,UU,w1,p,es,e2,ha,hτ,I,h2,V,z,W,h8,J⟩};exact gF e (fO _ _ _)
  have jR:0<gs.size:=(j5 Z).1;obtain⟨N,kI,U,d,O3,es,jD,t1,q1,hr,Z5,hz,M,oL,qI,_⟩:=Af (P:=X.P) (SB:=SB) (sl:=sl) Z lc hL hP λd=>by
   obtain⟨E,m,H,sS,w1,p,es,e,_,_,_,_,_,_,_,_,J⟩:=KX d;have Fz:wE SB (rng ρ) (own X ρ) (wc.at d):=⟨hF.apart,hF.low,hF.own,hF.foot⟩
   have l8:=Fz.step J;exact⟨_,_,es,e,J.size,λx hx=>⟨LZ (J.ev x hx) l8.apart l8.foot,λy hy=>(P7 (J.ev x hx) hy).1⟩⟩
  obtain⟨E,m,H,sS,w1,p,iZ,e,ha,⟨τ,Y,rfl,G8,rfl⟩,I,h2,V,z,W,h8,J⟩:=KX d;rw[e]at Z5;have iL:G H (sS++base)=U/\shf wc.tape (w.drawn,d) (nw τ)=O3/\iZ=es:=by injection Z5 with a b c;exact⟨a,b,c⟩
  obtain⟨rfl,rfl,rfl⟩:=iL;have Fz:wE SB (rng ρ) (own X ρ) (wc.at d):=⟨hF.apart,hF.low,hF.own,hF.foot⟩
  have Ar:=Fz.step J;have iy:Same (nw τ) (shf wc.tape (w.drawn,d) (nw τ)):=⟨lc,lc,lc⟩
  have fin:∀{H:aj} {sS:dw aj},kI[0]?=ζ (G H (sS++base))->Sw k (nf τ) m H sS->VX X Fb SB k Q ρ gs base wc sl t:=λ{H sS} M iE=>by obtain⟨N',fF,iG,Du,w2,nA,sl',t',q',ρ2,iJ,v,ho,Bz,vQ,pM,g1,g3,g4,g5,vN,sH,l8⟩:=ih τ Y (sl:=jD) G8.symm iE I h2 (WN.of V) iy W h8 M oL qI Ar;exact⟨N+N',fF,iG,Du,w2,nA,sl',t',q',ρ2,runNT_trans _ hr iJ,v,ho,Bz.trans hz,vQ,pM,g1,g3,ik z g4,g5,vN,sH,l8⟩
  have G9:=hm τ Y;rw[<-G8]at G9;generalize nf τ=E at*;cases ha with
  |sw iE=>exact fin M iE
  |panic hp=>rcases I.run with h|h<;>rw[hp]at h<;>cases h
  |ld hl=>
   cases hl with
   | @land f k' tJ=>rcases I.run with yO|yO;{have v:=XE R G9 yO;exact⟨N,kI,wt f (st k'),wt f k',nw τ,_,jD,t1,q1,p,hr,(by have:=(R _ _ _ v).1;rw[this]at v;exact v),.land yO tJ,hz,M,iy,LW I,WN.of V,z,W,oL,qI,Ar⟩};exact fin (sS:=[]) M (.ret (f:=f) yO)
   | @late f o=>rcases I.run with yO|yO;{have v:=q13 R G9 yO;exact⟨N,kI,wt f (st k),wt f k,nw τ,_,jD,t1,q1,p,hr,(by have:=(R _ _ _ v).1;rw[this]at v;exact v),.land yO (ι lc),hz,M,iy,(show FR X Fb η p (wt f []) (wt f [])from LW (fr:=wt f (π #[o] []::st k)) I),WN.of V,z,W,oL,qI,Ar⟩};exact fin (sS:=[]) M (.ret (f:=f) yO)
end
structure Co (X:Cx) (Fb bl:aL->gJ) (SB:Blocks) (ρ:Rel) (gs:eD aa) (fr:aj) (cs:dw aj) (w:ah) (t:aC) (q:bn->bn):Prop where
 g0:gs[0]?=ζ (G fr cs)
 leavers:bi X.P t gs q
 past:kR SB w gs.size t
 foot:wE SB (rng ρ) (own X ρ) w
 fr:bl fr.fn=θ->FR X Fb η ρ (wt fr []) (wt fr [])
 cs:∀c∈cs,bl c.fn=θ->FR X Fb η ρ (wt c []) (wt c [])
 wr:WR X ρ w w
 nb:NB w
def Comes (X:Cx) (Fb bl:aL->gJ) (SB:Blocks) (ρ:Rel) (gs:eD aa) (w:ah) (sl:gI (bn×bn)) (t:aC) (cs:dw aj) (Z:aj->ah->Prop):Prop:=
 ∃(fF:eD aa) (fD:aj) (w':ah) (sl':gI (bn×bn)) (t':aC) (q':bn->bn) (ρ':Rel),Runs X.P gs w sl t fF w' sl' t'/\fF.size=gs.size/\ρ.le ρ'/\Z fD w'/\Co X Fb bl SB ρ' fF fD cs w' t' q'
section
variable {X:Cx} {Fb bl:aL->gJ} {SB:Blocks}
theorem P5 {t:dw Item} (h:FR X Fb η ρ (wt f []) (wt f [])) (c:IsR X Fb η ρ t t):FR X Fb η ρ (wt f t) (wt f t):=
 ⟨h.fn,h.same,h.tmps,c,h.defers,h.mode,h.run,h.kind,h.kind',h.round⟩
theorem q1w:A7 k (Tgt b (st k) Q):=by
 rintro fr cs w ⟨p,e,a,_,c⟩;refine⟨p,?_⟩;cases e with
 |normal=>obtain rfl:=c;exact κ ⟨lc,k,lc,ι lc⟩
 |exit id=>obtain⟨k',h,rfl⟩:=c;rw[Ni]at h;obtain⟨v,m,rfl⟩:=aq.1 h;exact κ ⟨lc,v,lc,κ ⟨id,m⟩⟩
 |ret=>obtain⟨todo,rfl⟩:=c;exact ι lc
 |_=>exact c.elim
theorem WZ (h:k'=k\/∃id,aM id k=ζ k'):k' <:+ k:=by rcases h with rfl|⟨id,h⟩;{exact List.suffix_refl _};exact Yq h
theorem q3c {e:Exit} {a:Act} (h:Way k fr gr) (c:CF b (st k) e a fr):CF b k e a gr:=by
 cases h with
 | @land f k' hm hk=>
  have key:∀m,(m=k\/∃id,aM id k=ζ m)->wt f (st k')=b.at a (st m)->wt f k'=b.at a m:=λm p e=>by have y:st k'=st m:=gU Frame.todo e;have z:=jht (WZ hk) (WZ p) y;subst z;exact gU (wt · k') e
  cases e with
  |normal=>exact key k (ι lc) c
  |exit id=>obtain⟨E,p,v⟩:=c;rw[Ni]at p;obtain⟨m,x,rfl⟩:=aq.1 p;exact⟨m,x,key m (κ ⟨id,x⟩) v⟩
  |ret=>obtain⟨todo,c⟩:=c;have:f.mode=.returning:=gU Frame.mode c;rw[hm]at this;cases this
  |_=>exact c.elim
 | @ret f t t' hm=>
  cases e with
  |normal=>have:f.mode=.run:=gU Frame.mode c;rw[hm]at this;cases this
  |exit id=>obtain⟨E,p,v⟩:=c;have:f.mode=.run:=gU Frame.mode v;rw[hm]at this;cases this
  |ret=>obtain⟨todo,c⟩:=c;exact⟨t',gU (wt · t') c⟩
  |_=>exact c.elim
theorem Co.carry (sG:X.P'=X.P) (S:X.Set Fb η (λ_=>θ))
  (h:Co X Fb bl SB ρ gs gr cs w t q) (E:Sw k fr [] gr []) (m:FR X Fb η ρ fr fr) (ul:fr.roundOf=ε) (uD:∀e a w wc,Same w wc->Q e a w->Q e a wc)
  (Y:oI X.P (Tgt b (st k) Q) fr [c0] w):
  Comes X Fb bl SB ρ gs w sl t cs (λfD w'=>∃e a',Q e a' w'/\CF b k e a' fD):=by
 have R:Bot [fr]:=by intro f m;simp at m;subst m;exact ul
 obtain⟨N,H,iG,G,w2,z,p,t',q',ρ2,hr,⟨_,e,a',Z,W⟩,x,hz,vQ,y,I,J,v,M,vN,sH,l8⟩:=qtw sG S q1w Y (up:=[]) (gup:=[]) (base:=cs) lc E m .nil (WN.of h.wr) (Same.refl w) h.nb R h.g0 h.leavers h.past h.foot;refine⟨H,G,z,p,t',q',ρ2,⟨N,hr⟩,hz,v,⟨e,a',uD _ _ _ _ y Z,q3c x W⟩,⟨vQ,vN,sH,l8,?_,λc V U=>(h.cs c V U).mono v,WR.self S J y z.drawn,?_⟩⟩;{intro _;cases x<;>exact I};exact M
theorem Co.code (v:X.P'=X.P) (S:X.Set Fb η (λ_=>θ)) {ρ:Rel} {gs:eD aa} {b:aj} {a:Act} {c:Code} {k:dw Item} {cs:dw aj} {w:ah} {sl:gI (bn×bn)} {t:aC} {q:bn->bn} {Q:Exit->Act->ah->Prop}
  (h:Co X Fb bl SB ρ gs (b.at a (.code c::k)) cs w t q) (z:bl b.fn=θ) (G:codeOk X.P X.P Fb η c=η) (M:Plain k Q) (x:∀e a w wc,Same w wc->Q e a w->Q e a wc)
  (I:∀τ,Agree w τ->c.wp X.P Q a (re w τ)):
  Comes X Fb bl SB ρ gs w sl t cs (λfD w'=>∃e a',Q e a' w'/\CF b k e a' fD):=by
 have m:FR X Fb η ρ (b.at a (.code c::st k)) (b.at a (.code c::st k)):=P5 (f:=b.at a []) (h.fr z) (.cons (.code (by rw[v];exact G)) (IsR.st X Fb η ρ k));have E:Bot [b.at a (.code c::st k)]:=by intro f m;simp at m;subst m;rfl
 have p:Inv X Fb η (b.at a (.code c::st k)) [c0] w:=⟨ρ,_,[],[],w,lc,m,.nil,h.wr,h.nb,E⟩
 have y:Plain (st k) Q:=λe a w J=>by
  have:=M e a w J;cases e with
  |exit id=>obtain⟨k',e⟩:=this;exact⟨st k',by rw[Ni,e];rfl⟩
  |_=>exact this
 have H:=Q6 S p y x (b:=b) (k:=st k) (λτ ha=>I τ ha b (st k) [c0]);exact h.carry v S (fr:=b.at a (.code c::st k)) (.bot (f:=b.at a []) (.code (.code c) [])) m lc x H
theorem q14 {P:ax} {Q:aj->dw aj->ah->Prop} {m:aj} (h:oI P Q fr cs w) (x:¬Q fr cs w) (y:aB P η (G fr cs) w=.go (G m cs) w #[]):oI P Q m cs w:=by
 cases h with
 |done h=>exact gF h x
 |step nf nc nw ne h1 h2=>have e:aB P η (G fr cs) w=.go (G (nf w.tape) (nc w.tape)) (nw w.tape) (ne w.tape):=h1 w.tape (λ_ _ _=>lc);rw[y]at e;injection e with c p _;injection c with c v;have:=h2 w.tape (λ_ _ _=>lc);rw[<-c,<-p,<-v]at this;exact this
theorem Co.op (I:X.P'=X.P) (S:X.Set Fb η (λ_=>θ)) {ρ:Rel} {gs:eD aa} {b:aj} {a:Act} {ops:eD Oper} {i:bn} {td:dw bn} {o:Oper} {k:dw Item} {cs:dw aj} {w:ah} {sl:gI (bn×bn)} {t:aC} {q:bn->bn} {Q:Act->ah->Prop}
  (h:Co X Fb bl SB ρ gs (b.at a (π ops (i::td)::k)) cs w t q) (E:bl b.fn=θ) (ho:ops[i]?=ζ o) (U:kJ X.P X.P Fb η (Sim.bare o)=η) (V:aE o (bF ops a.tmps)=η) (uD:∀a w wc,Same w wc->Q a w->Q a wc) {id:bn}
  (hp:∀τ,Agree w τ->(Code.region id #[Sim.bare o] θ).wp X.P (λe a' w'=>e=.normal/\Q a' w') a (re w τ)):
  Comes X Fb bl SB ρ gs w sl t cs (λfD w'=>∃a',Q a' w'/\fD=b.at a' (π ops td::k)):=by
 let K:dw Item:=π ops td::k
 have N:kJ X.P X.P' Fb η (Sim.bare o)=η:=by rw[I];exact U
 have G:(#[Sim.bare o]:eD Oper).toList.all (kJ X.P X.P' Fb η)=η:=by simp[N]
 have x:FR X Fb η ρ (b.at a (.code (.region id #[Sim.bare o] θ)::st K)) (b.at a (.code (.region id #[Sim.bare o] θ)::st K)):=P5 (f:=b.at a []) (h.fr E) (.cons (.code G) (IsR.st X Fb η ρ K));have jB:FR X Fb η ρ (b.at a (π #[Sim.bare o] [0]::st K)) (b.at a (π #[Sim.bare o] [0]::st K)):=P5 (f:=b.at a []) (h.fr E) (.cons (.inRegion [0] G) (IsR.st X Fb η ρ K));have hB:Bot [b.at a (.code (.region id #[Sim.bare o] θ)::st K)]:=by intro f H;simp at H;subst H;rfl
 let p:Exit->Act->ah->Prop:=λe a' w'=>e=.normal/\Q a' w'
 have c:∀e a w wc,Same w wc->p e a w->p e a wc:=λe a w wc hs h=>⟨h.1,uD _ _ _ hs h.2⟩
 have J:Plain (st K) p:=by rintro e a w ⟨rfl,_⟩;trivial
 have m:Inv X Fb η (b.at a (.code (.region id #[Sim.bare o] θ)::st K)) [c0] w:=⟨ρ,_,[],[],w,lc,x,.nil,h.wr,h.nb,hB⟩
 have hm:=Q6 S m J c (b:=b) (k:=st K) (λτ ha=>hp τ ha b (st K) [c0]);have M:oI X.P (Tgt b (st K) p) (b.at a (π #[Sim.bare o] [0]::st K)) [c0] w:=by refine q14 hm ?_ lc;rintro⟨_,e,a',⟨rfl,_⟩,y⟩;have:=gU Frame.todo (show b.at a (.code (.region id #[Sim.bare o] θ)::st K)=b.at a' (st K)from y);have v:=gU bX this;simp[Frame.at]at v
 obtain⟨R,fD,w',z,t',q',ρ',v,W,Y,⟨e,a',⟨rfl,hq⟩,y⟩,Z⟩:=h.carry I S (k:=K) (sl:=sl) (fr:=b.at a (π #[Sim.bare o] [0]::st K)) (.bot (f:=b.at a []) (.op lc ho V)) jB lc c M;exact⟨R,fD,w',z,t',q',ρ',v,W,Y,⟨a',hq,y⟩,Z⟩
inductive Sil (P:ax):aj->dw aj->aj->dw aj->Prop
 |refl (fr:aj) (cs:dw aj):Sil P fr cs fr cs
 |step {fr yg iG:aj} {cs fw Dv:dw aj}:(∀w,aB P η (G fr cs) w=.go (G yg fw) w #[])->Sil P yg fw iG Dv->Sil P fr cs iG Dv
theorem Sil.runs {P:ax} {H:dw aj} (U:Sil P fr cs fD H):∀{gs:eD aa} {w:ah} {sl:gI (bn×bn)} {t:aC} {q:bn->bn},gs[0]?=ζ (G fr cs)->bi P t gs q->kR SB w gs.size t->
  ∃(c:eD aa) (d:bn) (E:gI (bn×bn)) (t':aC) (q':bn->bn),Runs P gs w sl t c (w.at d) E t'/\c.size=gs.size/\c[0]?=ζ (G fD H)/\bi P t' c q'/\kR SB (w.at d) c.size t':=by
 induction U with
 |refl fr cs=>exact λ{gs w sl t q} m v y=>⟨gs,w.drawn,sl,t,q,⟨0,lc⟩,lc,m,v,y⟩
 |step h1 _ ih=>
  intro gs w sl t q m v y;obtain⟨N,kI,a1,d,w1,es,W,t1,q1,R,h,V,og,Z,qI,_⟩:=Af (P:=P) (SB:=SB) (sl:=sl) m lc v y λd=>⟨_,_,_,h1 _,jg _,by simp⟩
  rw[h1]at h;injection h with J M e3;subst J;subst M;obtain⟨Y,I,oO,t2,q2,um,sj,p,x,z⟩:=ih (sl:=W) og Z qI;exact⟨Y,I,oO,t2,q2,Runs.trans ⟨N,R⟩ um,sj.trans V,p,x,z⟩
theorem Co.sil {v:dw aj} (h:Co X Fb bl SB ρ gs fr cs w t q) (M:Sil X.P fr cs fD v)
  (J:bl fD.fn=θ->FR X Fb η ρ (wt fD []) (wt fD [])) (I:∀c∈v,bl c.fn=θ->FR X Fb η ρ (wt c []) (wt c [])):
  ∃(p:eD aa) (d:bn) (m:gI (bn×bn)) (t':aC) (x:bn->bn),Runs X.P gs w sl t p (w.at d) m t'/\p.size=gs.size/\Co X Fb bl SB ρ p fD v (w.at d) t' x:=by
 obtain⟨p,d,m,t',x,y,z,E,G,H⟩:=M.runs (SB:=SB) (sl:=sl) h.g0 h.leavers h.past;exact⟨p,d,m,t',x,y,z,⟨E,G,H,⟨h.foot.apart,h.foot.low,h.foot.own,h.foot.foot⟩,J,I,⟨h.wr.fn,h.wr.inj,h.wr.heap,λ_ _=>lc,h.wr.sh⟩,h.nb⟩⟩
end
def fbL:dw bn:=[10,12,14,16,17,18,19,22,23,24,25,26,28,29,30,31,32,33,34,35,36,37,38,39,40,41,42,43,44,45,46,47,48,49,50,51,52,56,58,59,60,61,62,63,64,65,66,67,68,69,70,71,72,73,74,75,76,90,91,97,98,99,100,101,102,103,104,105,106,107,108,109,110,111,112,113,114,115,116,117,122,123,124,126,127,128,129,130,131,132,133,134,135,136,137,138,139,140,141,142,143,144,145,146,147,148,149,150,151,152,153,154,155,156,157,158,159]
def jkg:dw bn:=[56,90,91,122,123,124,135,136,137,142,143,144,145,146,147,148,149,150,151,152,153,154,155,156,157,158,159]
def fb (f:aL):gJ:=fbL.contains f
def fbP (f:aL):gJ:=jkg.contains f
noncomputable def okf (P:ax) (b:aL->gJ) (wr:gJ) (f:bn):gJ:=match P.funcs[f]? with
 |some fn=>match fn.body with
  |some c=>codeOk P P b wr c&&!(fn.name== "runtime.NumGoroutine")
  |none=>θ
 |none=>θ
theorem Im {P:ax} {b:aL->gJ} {l:dw bn} {wr:gJ} (h:l.all (okf P b wr)=η) (f:aL) (m:l.contains f=η):
  ∃fn c,P.funcs[f]?=ζ fn/\fn.body=ζ c/\codeOk P P b wr c=η/\(fn.name== "runtime.NumGoroutine")=θ:=by
 rw[cF]at h;have:=h f (List.contains_iff_mem.1 m);unfold okf at this;cases h1:P.funcs[f]? with
 |none=>rw[h1]at this;cases this
 |some fn=>
  rw[h1]at this;cases h2:fn.body with
  |none=>simp only[h2]at this;cases this
  |some c=>simp only[h2,Bool.and_eq_true,Bool.not_eq_true']at this;exact⟨fn,c,lc,h2,this.1,this.2⟩
theorem Pm:fbL.all (okf prog fb η)=η:=by kernel_rfl
theorem VD:jkg.all (okf prog fbP θ)=η:=by kernel_rfl
def blG (f:aL):gJ:=[3,4,5,6,7,8,10,11].contains f
noncomputable def XG:Cx:=⟨prog,prog,λf=>fb f=η,λc=>codeOk prog prog fb η c=η,λ_=>fo⟩
noncomputable def XW (Sh:bn->Prop):Cx:=⟨prog,prog,λf=>fbP f=η,λc=>codeOk prog prog fbP θ c=η,Sh⟩
theorem XR:prog.globals.size=0:=by kernel_rfl
theorem okXG:XG.Ok fb:=⟨lc,λ_ h=>h,XR,λ_ _ _=>lc,λ_ _ _=>lc,λf x=>by
 obtain⟨fn,c,m,p,_,v⟩:=Im Pm f x
 exact⟨fn,fn,m,m,by rw[p];rfl,by rw[p];rfl,v,v⟩⟩
theorem zS:XG.Set fb η (λ_=>θ):=⟨okXG,λ_=>Iff.rfl,λ_ _ h=>h,λf x _=>by
 obtain⟨fn,c,m,p,v,_⟩:=Im Pm f x
 exact⟨fn,c,m,m,p,v⟩⟩
theorem okXW (Sh:bn->Prop):(XW Sh).Ok fbP:=⟨lc,λ_ h=>h,XR,λ_ _ _=>lc,λ_ _ _=>lc,λf x=>by
 obtain⟨fn,c,m,p,_,v⟩:=Im VD f x
 exact⟨fn,fn,m,m,by rw[p];rfl,by rw[p];rfl,v,v⟩⟩
theorem jnj (Sh:bn->Prop):(XW Sh).Set fbP θ (λ_=>θ):=⟨okXW Sh,λ_=>Iff.rfl,(λh=>by cases h),λf x _=>by
 obtain⟨fn,c,m,p,v,_⟩:=Im VD f x
 exact⟨fn,c,m,m,p,v⟩⟩
structure FOk (F O:Blocks) (w:ah):Prop where
 low:∀b,F b->b<w.heap.size
 own:∀b,O b->F b
theorem FOk.ext {F O:Blocks} (h:FOk F O w) (e:Ext F w w1):FOk F O w1:=⟨λb c=>xll (h.low b c) e.size,h.own⟩
theorem FOk.quiet {F O:Blocks} (h:FOk F O w) (d:bn) (c:∀e∈es,EvF F O e):qC F O w F O {w with drawn:=w.drawn+d} es:=
 ⟨λ_ h=>h,λ_ h=>h,λ_ h=>ι h,λ_ h=>ι h,h.own,λ_ _ _=>lc,jg _,h.low,⟨d,lc⟩,lc,lc,lc,c,id⟩
section
variable {P:ax} {main:gJ} {Stop:Blocks->Blocks->aa->ah->Prop} {F O:Blocks} {g g':aa} {w:ah}
theorem WG.ctl (c:g.status=.running) (hF:FOk F O w) (h:∀w1,aB P main g w1=.go g' w1 #[]) (k:WG P main Stop F O g' w):WG P main Stop F O g w:=
 WG.step c λw1 e=>⟨F,O,g',w1,#[],h w1,(hF.ext e).quiet 0 (by simp),k.ext e⟩
theorem WG.quiet (p:g.status=.running) (hF:FOk F O w) (v:∀w1,Ext F w w1->∃g' d es,aB P main g w1=.go g' {w1 with drawn:=w1.drawn+d} es/\(∀e∈es,EvF F O e)/\WG P main Stop F O g' {w1 with drawn:=w1.drawn+d}):WG P main Stop F O g w:=
 WG.step p λw1 e=>by obtain⟨g',d,es,c,h,m⟩:=v w1 e;exact⟨F,O,g',_,es,c,(hF.ext e).quiet d h,m⟩
variable {b:aj} {a:Act} {k:dw Item} {cs:dw aj} {ops:eD Oper} {i:bn} {rest:dw bn} {o:Oper}
theorem WG.value (v:aG) (hF:FOk F O w) (x:ops[i]?=ζ o) (y:aE o (bF ops a.tmps)=η) (p:b.kind≠.early)
  (c:∀w1,Ext F w w1->(aJ a.eval o).run P w1=.ok (.value v) w1/\∀e∈(aJ a.eval o).events P w1 #[],EvF F O e)
  (n:WG P main Stop F O (G (b.at (a.put o.dst v) (π ops rest::k)) cs) w):WG P main Stop F O (G (b.at a (π ops (i::rest)::k)) cs) w:=
 WG.quiet lc hF λw1 e=>⟨_,0,_,stepG_value x y p (c w1 e).1,λh m=>(c w1 e).2 h (mem_listed m),n.ext e⟩
theorem GD {F O:Blocks} {ad:Addr} (h:F ad.block):EvF F O ⟨.cell ad,θ,θ⟩:=⟨lc,h,λh=>by cases h⟩
end
noncomputable def xw:eD Oper:=match Tryz.f54.body with
 |some (.seq _ (.region _ ops _))=>ops
 |_=>#[]
theorem yH (h:w1.heap[a.block]?=w.heap[a.block]?):w1.cell? a=w.cell? a:=by unfold World.cell?;rw[h]
structure Ea (F:Blocks) (kb cb fb tb cl i:bn) (dp s t:aG) (w:ah):Prop where
 k:w.cell? ⟨kb,0,ε⟩=ζ (σ υ i)
 c:w.cell? ⟨cb,0,ε⟩=ζ (ξ (ζ ⟨cl,0,ε⟩))
 f:w.cell? ⟨fb,0,ε⟩=ζ s
 t:w.cell? ⟨tb,0,ε⟩=ζ t
 d:w.cell? ⟨cl,1+i*3+1,ε⟩=ζ dp
 Fk:F kb
 Fc:F cb
 Ff:F fb
 Ft:F tb
 Fd:F cl
theorem Ea.ext {F:Blocks} {kb cb fb tb cl:bn} {dp s t:aG} (h:Ea F kb cb fb tb cl i dp s t w) (e:Ext F w w1):Ea F kb cb fb tb cl i dp s t w1:=
 ⟨(yH (e.keep _ h.Fk)).trans h.k,(yH (e.keep _ h.Fc)).trans h.c,(yH (e.keep _ h.Ff)).trans h.f,(yH (e.keep _ h.Ft)).trans h.t,(yH (e.keep _ h.Fd)).trans h.d,h.Fk,h.Fc,h.Ff,h.Ft,h.Fd⟩
section
variable {kb cb fb tb cl i:bn} {dp s t:aG}
def oP (cl i:bn) (dp s t:aG):bn->aG
 |0=>σ υ i
 |1=>ξ (ζ ⟨cl,0,ε⟩)
 |2=>σ υ i
 |3=>ξ (ζ ⟨cl,0,ε⟩)
 |4=>ξ (ζ ⟨cl,1,ε⟩)
 |5=>ξ (ζ ⟨cl,1+i*3,ε⟩)
 |6=>ξ (ζ ⟨cl,1+i*3+1,ε⟩)
 |7=>dp
 |8=>s
 |_=>t
structure WkT (kb cb fb tb cl i C Wg:bn) (dp s t:aG) (listed:eD gJ) (T:eD aG):Prop where
 size:T.size=18
 t1:T.getD 1 ae=ξ (ζ ⟨cb,0,ε⟩)
 t2:T.getD 2 ae=ξ (ζ ⟨kb,0,ε⟩)
 t3:T.getD 3 ae=ξ (ζ ⟨fb,0,ε⟩)
 t4:T.getD 4 ae=ξ (ζ ⟨tb,0,ε⟩)
 t5:T.getD 5 ae=ξ (ζ ⟨C,0,ε⟩)
 val:∀j,j<10->listed.getD j θ=η->T.getD (6+j) ae=oP cl i dp s t j
variable {C Wg:bn} {listed:eD gJ} {T:eD aG} {F O:Blocks} {w:ah} {ds:dw Deferred}
theorem Bw (h:j∈ay .any xw listed) (x:xw[j]?=ζ o) (q:bn) (e:Edge) (v:o.after[q]?=ζ e) (p:Region.binds .any e=η):listed.getD e.on θ=η:=by obtain⟨_,y,c,m⟩:=bP.1 h;rw[x]at c;cases c;exact m e (aV v) p
theorem Zz (hi:i<4) (H:WkT kb cb fb tb cl i C Wg dp s t listed T) (z:Ea F kb cb fb tb cl i dp s t w) (hj:j<10) (hr:j∈ay .any xw listed):
  ∃o,xw[j]?=ζ o/\o.guard=ε/\o.dst=ζ (6+j)/\(aJ (bg T ds).eval o).run prog w=.ok (.value (oP cl i dp s t j)) w/\∀e∈(aJ (bg T ds).eval o).events prog w #[],EvF F O e:=by
 have Z:(bg T ds).eval (.tmp 1)=ξ (ζ ⟨cb,0,ε⟩):=H.t1;have I:(bg T ds).eval (.tmp 2)=ξ (ζ ⟨kb,0,ε⟩):=H.t2;have e3:(bg T ds).eval (.tmp 3)=ξ (ζ ⟨fb,0,ε⟩):=H.t3;have e4:(bg T ds).eval (.tmp 4)=ξ (ζ ⟨tb,0,ε⟩):=H.t4;have y:∀G,G<10->listed.getD G θ=η->(bg T ds).eval (.tmp (6+G))=oP cl i dp s t G:=λG h1 h2=>H.val G h1 h2;have Y:((i:gY)<4):=by omega
 have J:=z.k;have k2:=z.c;have k3:=z.f;have k4:=z.t;have k5:=z.d;generalize (bg T ds).eval=e at*;have E:=λo (p:xw[j]?=ζ o)=>Bw (listed:=listed) hr p;clear hr;match j,hj with
 |0,_=>
  obtain⟨o,p,m,v,x⟩:∃o,xw[0]?=ζ o/\o.op=.load 3 (.tmp 2)/\o.dst=ζ (6+0)/\o.guard=ε:=⟨_,lc,lc,lc,lc⟩
  refine⟨o,p,x,v,?_,?_⟩;{unfold aJ;simp[go_sem,m,oP,I,J]};unfold aJ;simp[go_sem,m,I,J];exact GD z.Fk
 |1,_=>
  obtain⟨o,p,m,v,x⟩:∃o,xw[1]?=ζ o/\o.op=.load 40 (.tmp 1)/\o.dst=ζ (6+1)/\o.guard=ε:=⟨_,lc,lc,lc,lc⟩
  refine⟨o,p,x,v,?_,?_⟩;{unfold aJ;simp[go_sem,m,oP,Z,k2]};unfold aJ;simp[go_sem,m,Z,k2];exact GD z.Fc
 |2,_=>
  obtain⟨o,p,m,v,x⟩:∃o,xw[2]?=ζ o/\o.op=.load 3 (.tmp 2)/\o.dst=ζ (6+2)/\o.guard=ε:=⟨_,lc,lc,lc,lc⟩
  refine⟨o,p,x,v,?_,?_⟩;{unfold aJ;simp[go_sem,m,oP,I,J]};unfold aJ;simp[go_sem,m,I,J];exact GD z.Fk
 |3,_=>
  have M:=y 1 (by omega) (E _ lc 0 ⟨1,.data⟩ lc lc);simp only[oP,bw]at M;obtain⟨o,p,m,v,x⟩:∃o,xw[3]?=ζ o/\o.op=.nilCheck (.tmp 7)/\o.dst=ζ (6+3)/\o.guard=ε:=⟨_,lc,lc,lc,lc⟩
  refine⟨o,p,x,v,?_,?_⟩;{unfold aJ;simp[go_sem,m,oP,M]};unfold aJ;simp[go_sem,m,M]
 |4,_=>
  have R:=y 3 (by omega) (E _ lc 0 ⟨3,.data⟩ lc lc);simp only[oP,bw]at R;obtain⟨o,p,m,v,x⟩:∃o,xw[4]?=ζ o/\o.op=.fieldAddr 83 (.tmp 9) 1/\o.dst=ζ (6+4)/\o.guard=ε:=⟨_,lc,lc,lc,lc⟩
  refine⟨o,p,x,v,?_,?_⟩;{unfold aJ;simp[go_sem,m,oP,R]};unfold aJ;simp[go_sem,m,R]
 |5,_=>
  have U:=y 4 (by omega) (E _ lc 0 ⟨4,.data⟩ lc lc);simp only[oP,bw]at U;have N:=y 2 (by omega) (E _ lc 1 ⟨2,.data⟩ lc lc);simp only[oP,bw]at N;obtain⟨o,p,m,v,x⟩:∃o,xw[5]?=ζ o/\o.op=.indexAddr 81 (.tmp 10) (.tmp 8)/\o.dst=ζ (6+5)/\o.guard=ε:=⟨_,lc,lc,lc,lc⟩
  refine⟨o,p,x,v,?_,?_⟩;{unfold aJ;simp[go_sem,m,oP,U,N,Y]};unfold aJ;simp[go_sem,m,U,N,Y,Instr.indexAt];intro e h4;omega
 |6,_=>
  have V:=y 5 (by omega) (E _ lc 0 ⟨5,.data⟩ lc lc);simp only[oP,bw]at V;obtain⟨o,p,m,v,x⟩:∃o,xw[6]?=ζ o/\o.op=.fieldAddr 80 (.tmp 11) 1/\o.dst=ζ (6+6)/\o.guard=ε:=⟨_,lc,lc,lc,lc⟩
  refine⟨o,p,x,v,?_,?_⟩;{unfold aJ;simp[go_sem,m,oP,V]};unfold aJ;simp[go_sem,m,V]
 |7,_=>
  have W:=y 6 (by omega) (E _ lc 0 ⟨6,.data⟩ lc lc);simp only[oP,bw]at W;obtain⟨o,p,m,v,x⟩:∃o,xw[7]?=ζ o/\o.op=.load 77 (.tmp 12)/\o.dst=ζ (6+7)/\o.guard=ε:=⟨_,lc,lc,lc,lc⟩
  refine⟨o,p,x,v,?_,?_⟩;{unfold aJ;simp[go_sem,m,oP,W,k5]};unfold aJ;simp[go_sem,m,W,k5];exact GD z.Fd
 |8,_=>
  obtain⟨o,p,m,v,x⟩:∃o,xw[8]?=ζ o/\o.op=.load 9 (.tmp 3)/\o.dst=ζ (6+8)/\o.guard=ε:=⟨_,lc,lc,lc,lc⟩
  refine⟨o,p,x,v,?_,?_⟩;{unfold aJ;simp[go_sem,m,oP,e3,k3]};unfold aJ;simp[go_sem,m,e3,k3];exact GD z.Ff
 |9,_=>
  obtain⟨o,p,m,v,x⟩:∃o,xw[9]?=ζ o/\o.op=.load 9 (.tmp 4)/\o.dst=ζ (6+9)/\o.guard=ε:=⟨_,lc,lc,lc,lc⟩
  refine⟨o,p,x,v,?_,?_⟩;{unfold aJ;simp[go_sem,m,oP,e4,k4]};unfold aJ;simp[go_sem,m,e4,k4];exact GD z.Ft
 |_+10,h=>omega
end
theorem QJ (p c:bn->gJ) (i:bn) (h:∀j,j≠i->c j=p j) (v:p i=η) (m:c i=θ):∀l:dw bn,l.Nodup->i∈l->l.countP c+1=l.countP p
 |[],_,hi=>by cases hi
 |x::l,hn,hi=>by
  rw[List.nodup_cons]at hn;by_cases hx:x=i
  .subst hx;have e:l.countP c=l.countP p:=List.countP_congr λj y=>by rw[h j (λe=>hn.1 (e▸y))]
   simp[List.countP_cons,v,m,e]
  .have:=QJ p c i h v m l hn.2 ((cN.1 hi).resolve_left (λe=>hx e.symm));simp only[List.countP_cons,h x hx];omega
def cnt (listed:eD gJ):bn:=(dk 13).countP λj=>!listed.getD j η
theorem VH {listed:eD gJ} (c:i<13) (p:listed.size=13) (h:listed.getD i η=θ):cnt (listed.setIfInBounds i η)+1=cnt listed:=by
 refine QJ _ _ i (λj m=>?_) (by simpa using h) ?_ _ List.nodup_range (cM.2 c);{rw[bZ η (ce m)]}
 .have:i<listed.size:=by omega
  simp[this]
theorem q3b:(dk 13).all (λn=>match xw[n]? with|some o=>o.after.all λe=>ν (e.on<n)|none=>θ)=η:=by kernel_rfl
theorem QC:xw.size=13:=rfl
theorem qx8 {listed:eD gJ} (y:listed.size=13) (h:∃j,j<13/\listed.getD j η=θ):ay .any xw listed≠[]:=by
 have v:=q3b;rw[cF]at v;have key:∀n,n<=13->(∀j,j<n->listed.getD j θ=η)\/∃j,j∈ay .any xw listed:=by
  intro n;induction n with
  |zero=>intro _;exact ι λj c=>gF c (au _)
  |succ n ih=>
   intro hn;rcases ih (by omega)with h1|h1
   .have p:n<listed.size:=by omega
    cases hv:listed.getD n θ with
    |true=>
     refine ι λj c=>?_;rcases cy j n with h2|h2;{exact h1 j h2}
     .obtain rfl:j=n:=by omega
      exact hv
    |false=>
     refine κ ⟨n,bP.2 ⟨?_,?_⟩⟩;{simp[p]at hv|-;exact hv}
     .have:=v n (cM.2 (by omega));cases ho:xw[n]? with
      |none=>rw[ho]at this;cases this
      |some o=>rw[ho]at this;refine⟨o,lc,λe x _=>h1 _ ?_⟩;have:=(Array.all_eq_true_iff_forall_mem.1 this) e x;simpa using this
   .exact κ h1
 obtain⟨j,c,m⟩:=h;rcases key 13 (jg _)with h1|⟨z,h1⟩
 .have:=h1 j c;have p:j<listed.size:=by omega
  simp[p]at this m;rw[this]at m;cases m
 .exact List.ne_nil_of_mem h1
theorem go_open {listed:eD gJ} {fuel t:bn} (h:ay .any xw listed≠[]):∃i t',i∈ay .any xw listed/\
  aF .any xw (fuel+1) t listed []=i::aF .any xw fuel t' (listed.setIfInBounds i η) []:=by
 have c:t%(ay .any xw listed).length<(ay .any xw listed).length:=Nat.mod_lt _ (List.length_pos_iff.2 h);refine⟨(ay .any xw listed)[t%(ay .any xw listed).length],t/(ay .any xw listed).length,List.getElem_mem _,?_⟩;simp only[aF];change (match(ay .any xw listed)[t%(ay .any xw listed).length]? with
   |some i=>aF .any xw fuel (t/(ay .any xw listed).length) (listed.setIfInBounds i η) [i]
   |none=>[].reverse)=_
 rw[List.getElem?_eq_getElem c];simp only[];rw[linearise_go_acc];rfl
theorem WG.keep {P:ax} {main:gJ} {Stop:Blocks->Blocks->aa->ah->Prop} {F0:Blocks}:∀{F O:Blocks} {g:aa} {w:ah},WG P main Stop F O g w->(∀b,F0 b->F b/\¬O b/\b<w.heap.size)->
  ∀{w0:ah},Ext F0 w0 w->WG P main (λF O g w1=>Stop F O g w1/\Ext F0 w0 w1/\∀b,F0 b->F b/\¬O b/\b<w1.heap.size) F O g w:=by
 rintro F O g w ⟨r,h⟩;induction r generalizing F O g w with
 |leaf=>intro m w0 v;exact WG.stop λw1 e=>⟨h w1 e,v.trans (e.sub λb c=>(m b c).1),λb c=>⟨(m b c).1,(m b c).2.1,xll (m b c).2.2 e.size⟩⟩
 |node f ih=>
  intro m w0 v;refine WG.step h.1 λw1 e=>?_;obtain⟨z,E,g',w',es,H,p,I⟩:=h.2 w1 e;have G:Ext F0 w0 w1:=v.trans (e.sub λb c=>(m b c).1);have x:∀b,F0 b->b<w1.heap.size:=λb c=>xll (m b c).2.2 e.size;exact⟨z,E,g',w',es,H,p,ih w1 I (λb c=>⟨p.sub b (m b c).1,λJ=>(p.DZ b J).elim (m b c).2.1 (λy=>cg _ (xll (x b c) y)),xll (x b c) p.size⟩)
   (G.trans ⟨p.size,λb c=>p.keep b (x b c) (m b c).2.1⟩)⟩
theorem xu {T:eD aG} {v:aG} (h:j<T.size):(T.setIfInBounds j v).getD j ae=v:=by simp[h]
theorem ja {T:eD aG} {c:bn} {v:aG} (h:j≠c):(T.setIfInBounds j v).getD c ae=T.getD c ae:=by simp[xne h]
theorem jf5 {listed:eD gJ} {t:bn} (h:∀j,j∈ay .any xw listed->fo):∀{fuel:bn},aF .any xw fuel t listed []=[]
 |0=>rfl
 |fuel+1=>by
  have c:ay .any xw listed=[]:=List.eq_nil_iff_forall_not_mem.2 h;simp only[aF];change (match(ay .any xw listed)[t%(ay .any xw listed).length]? with
    |some i=>aF .any xw fuel (t/(ay .any xw listed).length) (listed.setIfInBounds i η) [i]
    |none=>[].reverse)=_
  rw[c];rfl
def AtRet (P:ax) (R:Blocks->aG->ah->Prop) (base:dw aj) (F O:Blocks) (g:aa) (w:ah):Prop:=
 FOk F O w/\∃v,R F v w/\g.status=.running/\∀c cs,base=c::cs->∀w1,aB P θ g w1=.go (G (c.finish v) cs) w1 #[]
section
variable {kb cb fb tb cl i C Wg:bn} {dp s t:aG} {listed:eD gJ} {T:eD aG} {ds:dw Deferred}
theorem WkT.set (c:WkT kb cb fb tb cl i C Wg dp s t listed T) (v:aG) (x:j<10->v=oP cl i dp s t j) (y:6+j<18) (z:listed.size=13):WkT kb cb fb tb cl i C Wg dp s t (listed.setIfInBounds j η) (T.setIfInBounds (6+j) v):=by refine⟨by simpa using c.size,?_,?_,?_,?_,?_,λp m h=>?_⟩;{rw[ja (by omega)];exact c.t1};{rw[ja (by omega)];exact c.t2};{rw[ja (by omega)];exact c.t3};{rw[ja (by omega)];exact c.t4};{rw[ja (by omega)];exact c.t5};by_cases e:j=p;{subst e;rw[xu (by rw[c.size];omega)];exact x m};rw[ja (by omega)];rw[bZ θ e]at h;exact c.val p m h
variable {jd:Blocks->aG->ah->Prop} {F0:Blocks} {w0:ah} {b:aj} {k:dw Item} {cs:dw aj} {Stop:Blocks->Blocks->aa->ah->Prop}
theorem wReg (hi:i<4) (hk:b.kind≠.early) (jm:∀F v w w1,jd F v w->Ext F w w1->jd F v w1)
  (lU:∀(c:aj) (w1:ah),Ext F0 w0 w1->WG prog θ (AtRet prog jd (c::cs)) F0 (λ_=>fo) (G (Frame.enter prog 56 #[dp,s,t] .normal) (c::cs)) w1)
  (fB:∀F O w T v,FOk F O w->(∀b,F0 b->F b)->jd F v w->T.getD 16 ae=v->T.getD 17 ae=ξ (ζ ⟨C,i,ε⟩)->T.size=18->Stop F O (G (b.at ⟨T,ds⟩ (π xw [12]::k)) cs) w):
  ∀(fuel t':bn) (listed:eD gJ) (T:eD aG) (F O:Blocks) (w:ah),listed.size=13->cnt listed=fuel->WkT kb cb fb tb cl i C Wg dp s t listed T->Ea F0 kb cb fb tb cl i dp s t w->FOk F O w->(∀b,F0 b->F b)->
   listed.getD 12 η=θ->(listed.getD 10 θ=η->jd F (T.getD 16 ae) w)->(listed.getD 10 θ=θ->F=F0/\O=(λ_=>fo)/\Ext F0 w0 w)->(listed.getD 11 θ=η->T.getD 17 ae=ξ (ζ ⟨C,i,ε⟩))->
   WG prog θ Stop F O (G (b.at ⟨T,ds⟩ (π xw (aF .any xw fuel t' listed [])::k)) cs) w:=by
 intro fuel;induction fuel with
 |zero=>intro t' listed T F O w M hc _ _ _ _ V;exfalso;have:=VH (i:=12) (by omega) M V;omega
 |succ fuel ih=>
  intro t' listed T F O w M hc y p hF z V nZ jkh vP;obtain⟨j,t2,E,e⟩:=go_open (fuel:=fuel) (t:=t') (qx8 M ⟨12,by omega,V⟩);rw[e];have iR:listed.getD j η=θ:=(bP.1 E).1;have RQ:j<13:=by obtain⟨_,o,H,_⟩:=bP.1 E;have:=(j5 H).1;rwa [QC]at this
  have iw:=VH RQ M iR;have wY:(listed.setIfInBounds j η).size=13:=by simpa using M
  have N:∀{n:bn} {d:gJ},n≠j->(listed.setIfInBounds j η).getD n d=listed.getD n d:=λh=>bZ _ (ce h);rcases(by omega:j<10\/j=10\/j=11\/j=12)with h|rfl|rfl|rfl
  .-- one of the first ten
   obtain⟨o,H,hg,Z,hr,iH⟩:=Zz (F:=F) (O:=O) (ds:=ds) hi y (w:=w) ⟨p.k,p.c,p.f,p.t,p.d,z _ p.Fk,z _ p.Fc,z _ p.Ff,z _ p.Ft,z _ p.Fd⟩ h E;have Y:aE o (bF xw (bg T ds).tmps)=η:=by unfold aE;rw[hg]
   refine WG.value (oP cl i dp s t j) hF H Y hk (λw1 J=>?_) ?_;{obtain⟨o',vF,_,_,iJ,UF⟩:=Zz (F:=F) (O:=O) (ds:=ds) hi y (w:=w1) (Ea.ext ⟨p.k,p.c,p.f,p.t,p.d,z _ p.Fk,z _ p.Fc,z _ p.Ff,z _ p.Ft,z _ p.Fd⟩ J) h E;rw[H]at vF;cases vF;exact⟨iJ,UF⟩};rw[Z];refine ih t2 _ _ F O w wY (by omega) (y.set _ (λ_=>lc) (by omega) M) p hF z (by rw[N (by omega)];exact V) (λm=>?_) (λm=>?_) (λm=>?_);{rw[N (by omega)]at m;show jd F ((T.setIfInBounds (6+j) _).getD 16 ae) w;rw[ja (by omega)];exact nZ m};{rw[N (by omega)]at m;exact jkh m};rw[N (by omega)]at m;show(T.setIfInBounds (6+j) _).getD 17 ae=_;rw[ja (by omega)];exact vP m
  .-- the call
   have UQ:listed.getD 10 θ=θ:=by
    have R:10<listed.size:=by omega
    simp[R]at iR|-;exact iR
   obtain⟨rfl,rfl,e0⟩:=jkh UQ;obtain⟨o,H,W,Z,hg⟩:∃o,xw[10]?=ζ o/\o.op=.call {callee:=.value (.func 56),args:=#[.tmp 13,.tmp 14,.tmp 15],argTypes:=#[77,9,9]}/\o.dst=ζ 16/\o.guard=ε:=⟨_,lc,lc,lc,lc⟩
   have a7:=y.val 7 (by omega) (Bw E (o:=_) lc 0 ⟨7,.data⟩ lc lc);have a8:=y.val 8 (by omega) (Bw E (o:=_) lc 1 ⟨8,.data⟩ lc lc);have a9:=y.val 9 (by omega) (Bw E (o:=_) lc 2 ⟨9,.data⟩ lc lc);have Y:aE o (bF xw (bg T ds).tmps)=η:=by unfold aE;rw[hg]
   have ev:∀w1,(aJ (bg T ds).eval o).run prog w1=.ok (.enter 56 #[dp,s,t]) w1/\(aJ (bg T ds).eval o).events prog w1 #[]=#[]:=λw1=>by
    have b7:(bg T ds).eval (.tmp 13)=dp:=a7;have b8:(bg T ds).eval (.tmp 14)=s:=a8;have b9:(bg T ds).eval (.tmp 15)=t:=a9;generalize he:(bg T ds).eval=e at*;have bf:e (.func 56)=.func (.func 56) #[] #[]:=by rw[<-he];rfl
    unfold aJ;constructor;{simp[go_sem,W,b7,b8,b9,bf]};simp[go_sem,W,b7,b8,b9,bf];simp[callFunc,go_sem,func56,Tryz.f56]
   have jS:∀x,F x->F x/\¬(λ_=>fo:Blocks) x/\x<w.heap.size:=λx U=>⟨U,λh=>h,hF.low x U⟩
   refine WG.quiet lc hF λw1 J=>⟨_,0,_,stepG_enter H Y hk (ev w1).1,λe' he=>?_,?_⟩
   .have:=mem_listed he;rw[(ev w1).2]at this;simp at this
   refine WG.then (WG.keep (F0:=F) (lU _ w1 (e0.trans J)) (λx U=>⟨U,λh=>h,xll (hF.low x U) J.size⟩) (Ext.refl F w1)) ?_;rintro F1 O1 g1 w2 ⟨⟨Ar,v,hv,fA,Ce⟩,e2,jlu⟩;have Uz:=p.ext (J.trans e2);refine WG.ctl fA Ar (Ce _ _ lc) ?_;rw[Frame.finish_at,H];show WG _ _ _ _ _ (G (b.at ((bg T ds).put o.dst v) _) cs) w2;rw[Z];refine ih t2 _ _ F1 O1 w2 wY (by omega) (y.set (j:=10) v (λh=>by omega) (by omega) M) Uz Ar (λx U=>(jlu x U).1) (by rw[N (by omega)];exact V) (λ_=>?_) (λm=>?_) (λm=>?_);{show jd F1 ((T.setIfInBounds (6+10) v).getD 16 ae) w2;rw[xu (by rw[y.size];omega)];exact hv}
   .have R:10<listed.size:=by omega
    simp[R]at m
   .rw[N (by omega)]at m;show(T.setIfInBounds (6+10) v).getD 17 ae=_;rw[ja (by omega)];exact vP m
  .-- the index
   have a0:=y.val 0 (by omega) (Bw E (o:=_) lc 0 ⟨0,.data⟩ lc lc);have pU:=Bw E (o:=_) lc 11 ⟨10,.phase⟩ lc lc;obtain⟨o,H,W,Z,hg⟩:∃o,xw[11]?=ζ o/\o.op=.indexAddr 112 (.tmp 5) (.tmp 6)/\o.dst=ζ 17/\o.guard=ε:=⟨_,lc,lc,lc,lc⟩
   have Y:aE o (bF xw (bg T ds).tmps)=η:=by unfold aE;rw[hg]
   have Kh:((i:gY)<4):=by omega
   refine WG.value (ξ (ζ ⟨C,i,ε⟩)) hF H Y hk (λw1 J=>?_) ?_;{have b5:(bg T ds).eval (.tmp 5)=ξ (ζ ⟨C,0,ε⟩):=y.t5;have b6:(bg T ds).eval (.tmp 6)=σ υ i:=a0;generalize he:(bg T ds).eval=e at*;unfold aJ;constructor;{simp[go_sem,W,b5,b6,Kh]};simp[go_sem,W,b5,b6,Kh,Instr.indexAt];intro e h4;omega};rw[Z];refine ih t2 _ _ F O w wY (by omega) (y.set (j:=11) _ (λh=>by omega) (by omega) M) p hF z (by rw[N (by omega)];exact V) (λm=>?_) (λm=>?_) (λ_=>?_);{show jd F ((T.setIfInBounds (6+11) _).getD 16 ae) w;rw[ja (by omega)];exact nZ pU};{rw[N (by omega)]at m;rw[pU]at m;cases m};show(T.setIfInBounds (6+11) _).getD 17 ae=_;rw[xu (by rw[y.size];omega)]
  .-- the store
   have pU:=Bw E (o:=_) lc 1 ⟨10,.data⟩ lc lc;have tK:=Bw E (o:=_) lc 0 ⟨11,.data⟩ lc lc;have gu:∀j,j<12->listed.getD j θ=η:=λj Ux=>by
    have I:=λq e=>Bw E (o:=_) lc q e;match j,Ux with
    |0,_=>exact I 3 ⟨0,.phase⟩ lc lc
    |1,_=>exact I 4 ⟨1,.phase⟩ lc lc
    |2,_=>exact I 5 ⟨2,.phase⟩ lc lc
    |3,_=>exact I 6 ⟨3,.phase⟩ lc lc
    |4,_=>exact I 7 ⟨4,.phase⟩ lc lc
    |5,_=>exact I 8 ⟨5,.phase⟩ lc lc
    |6,_=>exact I 9 ⟨6,.phase⟩ lc lc
    |7,_=>exact I 10 ⟨7,.phase⟩ lc lc
    |8,_=>exact I 11 ⟨8,.phase⟩ lc lc
    |9,_=>exact I 12 ⟨9,.phase⟩ lc lc
    |10,_=>exact pU
    |11,_=>exact tK
   have Cc:aF .any xw fuel t2 (listed.setIfInBounds 12 η) []=[]:=jf5 λj Ke=>by
    have m:=(bP.1 Ke).1;have hj13':j<13:=by obtain⟨_,o,H,_⟩:=bP.1 Ke;have:=(j5 H).1;rwa [QC]at this
    by_cases e12:j=12
    .subst e12;have R:12<listed.size:=by omega
     simp[R]at m
    .rw[bZ η (ce e12)]at m;have h2:=gu j (by omega);have R:j<listed.size:=by omega
     simp[R]at m h2;rw[m]at h2;cases h2
   rw[Cc];exact WG.stop λw1 J=>fB F O w1 T _ (hF.ext J) z (jm _ _ _ _ (nZ pU) J) lc (vP tK) y.size
end
end Ph
end Go.Proofs.YtkpekiajdlolnabGreat
