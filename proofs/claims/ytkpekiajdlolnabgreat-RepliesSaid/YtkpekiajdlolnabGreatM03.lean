/- PROVED: part 3 of the claim's ground. Conditions: those that each theorem names. -/
import Derived.Test.YtkpekiajdlolnabGreatM02
import Derived.Conc.WgWords
import Derived.WalkKit
import Derived.Conc.LeavingOf
import Derived.Test.YtkpekiajdlolnabGreatChecked
import Derived.LoopTactic
import Derived.Lib.Hide
import Derived.Outline
import Derived.Maps.Own
import Derived.StringKeys
import Derived.Maps.OwnOps
import Derived.Maps.OwnSet
import Derived.BigQuiet
import Derived.Deep.QuietTactic
import Derived.StillTailTactics
import Derived.Laws.AppendOwn
import Derived.OwnWalk
import Derived.Laws.Cover1
import Derived.Deep.RegionHeld3
import Derived.Deep.RegionWith
set_option linter.unusedVariables false
set_option linter.unusedSimpArgs false
set_option maxRecDepth 100000
set_option maxHeartbeats 16000000
open _root_ renaming rfl→lc,ByteArray→bn,Nat→dw,Array→eD,List→fo,if_neg→gF,Option→gI,if_pos→gJ,Int→gU,decide_eq_true_eq→gY,Bool→iO,False→jb,congrArg→je,if_true→jC,beq_eq_false_iff_ne→kw,propext→ky,if_false→kM,absurd→kT,UInt8→kZ
variable{B:dw->Prop} {F O SB:Go.Proofs.YtkpekiajdlolnabGreat.Sim.Blocks} {K:Go.Goroutine->Go.World->Prop} {R:Go.Value->Go.World->Prop} {a w w' w1:Go.World} {b c cb db i j kb mb n:dw} {cs:fo Go.Frame} {e:Go.Operand->Go.Value} {f:Go.FuncId} {fr:Go.Frame} {g:Go.Goroutine} {gs:eD Go.Goroutine} {jd:dw->Go.Proofs.YtkpekiajdlolnabGreat.Sim.Blocks->Go.Value->Go.World->Prop} {k s:bn} {l l':fo (dw×Go.Value)} {o:Go.Oper} {ops:eD Go.Oper} {q:dw->dw} {sa:gI Go.Addr} {t:Go.Trace} {td:fo dw} {xs:fo Go.Value} {ρ:Go.Proofs.YtkpekiajdlolnabGreat.Sim.Rel}
open Go.Proofs.Tryz
open Go.Region renaming wanted→aa
open Go renaming Value→ac,undef→ae,World→ah,bytesBefore→aj,execOp→al,Frame→aw,Goroutine→ax,yielded→az,rounds_succ→aB,Calls→aL,wp_region_still_tail→aM,FuncId→aN,maxLen→aO,heap_alloc_old→aX,run_underlying→bm,wp_loop_rounds→bD,stepG→bI,Operand→bJ,Program→bK,MapEntry→bO,wpStill_nil→bX,TypeId→bZ,Ending→co,Event→dS,Trace→dU
open Go.Act renaming mk→ai
open Array renaming getElem?_push→am,getD_eq_getD_getElem?→bL,replicate→cu,toList_append→cG,ext'→dy,ext→eL
open Go.Frame renaming enter→ao,finish→dK
open Go.Conc renaming stepG_region_end→aq,stepG_region→ay,stepG_seq→aE,stepG_value→aQ,aside_setCell→bg,seen_none→bN,mem_listed→bP,goes_go→bQ,stepG_block→bR,stepG_inBlock→cH,stepG_enter→dl,Leavers→du,stepG_skip→dx
open List renaming eq_nil_of_length_eq_zero→au,take_succ_cons→aC,drop_succ_cons→aD,mem_cons→aF,getElem?_eq_some_iff→aH,size_toArray→aT,mem_of_mem_take→aV,length_take→aY,map_cons→bh,getElem?_take_of_lt→bi,pairwise_cons→bj,take_of_length_le→bA,take_zero→bB,drop_zero→bC,map_toArray→ce,length_drop→cg,find?_cons→cx,mem_filter→cy,mem_append→cA,length_append→cM,map_nil→cN,append_assoc→cU,length_cons→da,all_eq_true→dc,filter_cons→dh,length→dQ,range→et
open ByteArray renaming getElem_eq_getElem_data→aA
open Go.World renaming cell?→aG,ownsRow_nil→bV,frozen?→bY
open Go.RowKit renaming Below→aI
open Nat renaming le_of_lt→aJ,zero_add→bw,mul_le_mul_right→cC
open Go.Builtin renaming append_→aK,firstCells→aR,zeroCells→aU,lenOf→bG,len_→cn,min_→dH,min2→dI
open Bool renaming and_eq_true→aP,false_eq_true→cK,or_eq_true→dt
open And renaming intro→aS
open Go.Lit renaming string→aW
open Go.ByteArray renaming toList_eq→aZ
open Go.Sem renaming runT_fst→bk,runT_bind'→bz,runT→dz,run_bind→dF,run_pure→dG,runT_eq→dW
open Go.Addr renaming add_lit→bp
open Go.IntKind renaming wrap_i64→bE
open Ne renaming symm→bF
open UInt8 renaming lt_or_eq_of_le→bH
open Bool renaming false→θ,true→η
open Go.Value renaming pointer→ξ,string→Γ,tuple→ο,int→σ,slice→Δ,agg→Θ,bool→χ
open Option renaming none→ε,some→ζ
open Go.Item renaming inRegion→π
open Go.Ending renaming returned→ψ
open Or renaming inl→ι,inr→κ
open Go.Obj renaming cells→ω
open Go.IntKind renaming i64→υ
open Decidable renaming decide→ν
namespace Go.Proofs.YtkpekiajdlolnabGreat
namespace Ph
open Go.Conc Go.ConcN Go.RowKit Go.Conc.Lib Go.ConcR.Gen Go.ConcN.Gen Go Sim
open Go.ConcR (KK wgBlock WgAt stA smA rd wr mk Payload Aside2 DC0 ofEvent_cell)
instance:Payload:=⟨112⟩
abbrev fW:aN:=54
def bW:aw:=baseD fW
noncomputable def xC:aw:={(default:aw)with fn:=prog.funcs.size,defers:=[],mode:=.panicking [goexitEntry]}
noncomputable def Ro:=Tryz.f54.body.getD .skip
theorem jmi:(prog.funcs[bW.fn]?).any (·.norace)=θ:=by kernel_rfl
def AY (Wg cb kb fb tb C:dw):Deferred:={target:=.fn (.func fW) #[ξ (ζ ⟨Wg,0,ε⟩),ξ (ζ ⟨cb,0,ε⟩),ξ (ζ ⟨kb,0,ε⟩),ξ (ζ ⟨fb,0,ε⟩),ξ (ζ ⟨tb,0,ε⟩),ξ (ζ ⟨C,0,ε⟩)],args:=#[]}
theorem jg8 (T:eD ac):QuitsD prog 2 0 (G {bW.at ⟨T,[]⟩ []with mode:=.returning} [xC]):=by refine QuitsD.ctl (g':=G xC []) lc (λw=>?_) ?_;{simp[G,bI,unwind,doReturn,results,Frame.at,bW,baseD,xC,func54,Tryz.f54,seen,GStep.after,goexitEntry]};refine QuitsD.ctl (g':={G xC []with status:=.finished}) lc (λw=>?_) ⟨lc,lc⟩;simp[G,bI,unwind,xC,goexitEntry,Frame.catches];rfl
theorem qwr (Wg cb kb fb tb C:dw) (w:ah):bI prog θ (born prog (AY Wg cb kb fb tb C)) w=
  .go (G (bW.at ⟨#[ξ (ζ ⟨Wg,0,ε⟩),ξ (ζ ⟨cb,0,ε⟩),ξ (ζ ⟨kb,0,ε⟩),ξ (ζ ⟨fb,0,ε⟩),ξ (ζ ⟨tb,0,ε⟩),ξ (ζ ⟨C,0,ε⟩),ae,ae,ae,ae,ae,ae,ae,ae,ae,ae,ae,ae],[]⟩ [.code Ro]) [xC]) w #[]:=by
 simp[born,AY,bI,unwind,callDeferred,invoke,callFunc,func54,Tryz.f54,seen,GStep.after,G,ao,Frame.at,bW,baseD,xC,Ro]
section
variable {main:iO} {b:aw} {a:Act} {kk:fo Item} {cs:fo aw} {w:ah} {ops:eD Oper} {i:dw} {rest:fo dw} {o:Oper}
theorem qst {x y:bJ} (H:ops[i]?=ζ o) (M:aa o (az ops a.tmps)=η) (E:b.kind≠.early) (d:o.op=.store 47 x y)
  {ad:Addr} {u:ac} (p:a.eval x=ξ (ζ ad)) (r:a.eval y=.slice sa n c) (h:w.cell? ad=ζ u) (z:w.frozen? ad=θ) (I:(prog.funcs[b.fn]?).any (·.norace)=θ):
  bI prog main (G (b.at a (π ops (i::rest)::kk)) cs) w=.go (G (b.at (a.put o.dst ae) (π ops rest::kk)) cs) (w.setCell ad (.slice sa n c)) #[⟨.cell ad,η,θ⟩]:=by
 have J:(al a.eval o).run prog w=.ok .skip (w.setCell ad (.slice sa n c)):=by unfold al;simp only[d,p,r];simp[go_sem,stored,h,z]
 have D:(al a.eval o).events prog w #[]=#[⟨.cell ad,η,θ⟩]:=by unfold al;simp only[d,p,r];simp[go_sem,storedEv,h,z]
 rw[stepG_none H M E J];unfold listed;rw[D,seen_eq I (by simp)]
end
section
variable {C n i:dw} {w:ah}
theorem q7s (y:PayAt C n w) (r:i<n):∃u,w.cell? ⟨C,i,ε⟩=ζ u/\w.frozen? ⟨C,i,ε⟩=θ:=by obtain⟨d,h,p⟩:=y;exact⟨d[i]'(by omega),by simp[aG,h,p,r],by simp[bY,h]⟩
end
theorem q64:(Tryz.f55.name== "runtime.NumGoroutine")=θ:=by kernel_rfl
section
variable {i C Wg:dw}
theorem jny (T:eD ac) (v:ac) (d:WgLive link.tWg Wg w/\Has C i v w):
  Goes prog θ (RW link.tWg Wg C 4 0 i) (DWs Wg tC tC C 4 (i+1)) (AtR0 prog link.tWg Wg C 4 0 (i+1) v) 26 (G (bW.at ⟨T,[dcall 55 #[ξ (ζ ⟨Wg,0,ε⟩)]]⟩ (π xw []::[])) [xC]) w:=by
 have h:= @doneN _ link prog ND tC tC Wg C 4 0 (i+1) v
 u_c aq kn_rely d
 u_c stepG_end kn_rely d
 u_in kn_rely d
 rw[stepG_unwind_enter lc func55 q64 lc];simp only[bQ];refine⟨by u_nil,?_⟩
 walk_nrmf Tryz.f55
 simp only[body_done,doneFn,Option.getD_some]at h;exact h lc (jg8 T) _ d
theorem jim {T:eD ac} {v:ac} (y:i<4) (p:C≠Wg) (S:jd i F v w) (r:∃sa n c,v=.slice sa n c) (H:T.getD 16 ae=v) (E:T.getD 17 ae=ξ (ζ ⟨C,i,ε⟩)):
  Gp prog link.tWg Wg C 4 jd i F O (G (bW.at ⟨T,[dcall 55 #[ξ (ζ ⟨Wg,0,ε⟩)]]⟩ (π xw [12]::[])) [xC]) w:=by
 refine⟨lc,v,S,λw1 e1 z Y=>?_⟩;obtain⟨u,yI,D⟩:=q7s (i:=i) z y;obtain⟨sa,n,c,rfl⟩:=r;obtain⟨o,ho,I,U,V⟩:∃o,xw[12]?=ζ o/\o.op=.store 47 (.tmp 17) (.tmp 16)/\o.dst=ε/\o.guard=ε:=⟨_,lc,lc,lc,lc⟩
 have J:aa o (az xw (ai T [dcall 55 #[ξ (ζ ⟨Wg,0,ε⟩)]]).tmps)=η:=by unfold aa;rw[V]
 have d:=qst (main:=θ) (b:=bW) (kk:=[]) (cs:=[xC]) (rest:=[]) ho J (by decide) I (E:(ai T _).eval (.tmp 17)=_) (H:(ai T _).eval (.tmp 16)=_) yI D jmi;have M:=aS (let⟨st,sm,h⟩:=Y;(⟨st,sm,h.of_block ((bg _ ⟨C,i,ε⟩ (.slice sa n c)).block Wg (bF p))⟩:WgLive link.tWg Wg (w1.setCell ⟨C,i,ε⟩ (.slice sa n c)))) (ja6 (i:=i) z y (.slice sa n c));rw[U]at d;exact⟨_,d,26,jny T _ M⟩
theorem qsx:Region.departs xw=θ:=by kernel_rfl
theorem qys {mixed:iO} {t:dw}:Region.schedule mixed xw t=Region.linearise.go .any xw 13 t (cu 13 θ) []:=by unfold Region.schedule;rw[qsx];simp only[Bool.not_false,Bool.or_true,jC];unfold Region.linearise;rw[QC]
theorem jdk {fb tb cl:dw} {dp s t:ac} {F0:Blocks} (z:i<4) (p:C≠Wg) (M:∀F v w w1,jd i F v w->Ext F w w1->jd i F v w1) (r:∀F v w,jd i F v w->∃sa n c,v=.slice sa n c)
  (J:Ea F0 kb cb fb tb cl i dp s t w) (hF:FOk F0 (λ_=>jb) w)
  (S:∀(c:aw) (cs:fo aw) (w1:ah),Ext F0 w w1->WG prog θ (AtRet prog (jd i) (c::cs)) F0 (λ_=>jb) (G (ao prog 56 #[dp,s,t] .normal) (c::cs)) w1):
  Script prog link.tWg Wg C 4 jd i F0 (born prog (AY Wg cb kb fb tb C)) w:=by
 refine⟨F0,λ_ h=>h,?_⟩;refine WG.ctl lc hF (qwr Wg cb kb fb tb C) ?_;have I:Ro=.seq (.region 0 #[{dst:=ε,op:=.defer {callee:=.value (.func 55),args:=#[.tmp 0],argTypes:=#[122]},type:=0,pos:= "cluster.go:120",after:=#[],guard:=ε}] θ) (.region 1 xw η):=lc;rw[I];refine WG.ctl lc hF (λw1=>aE) ?_;refine WG.ctl lc hF (λw1=>ay) ?_;refine WG.ctl lc hF (λw1=>stepG_defer lc lc (by decide) lc) ?_
 walk_nrm
 refine WG.ctl lc hF (λw1=>aq) ?_;refine WG.quiet lc hF λw1 d=>⟨_,1,#[],stepG_region_draw,by simp,?_⟩
 rw[qys];show WG _ _ _ _ _ (G (bW.at ⟨#[ξ (ζ ⟨Wg,0,ε⟩),ξ (ζ ⟨cb,0,ε⟩),ξ (ζ ⟨kb,0,ε⟩),ξ (ζ ⟨fb,0,ε⟩),ξ (ζ ⟨tb,0,ε⟩),ξ (ζ ⟨C,0,ε⟩),ae,ae,ae,ae,ae,ae,ae,ae,ae,ae,ae,ae],[dcall 55 #[ξ (ζ ⟨Wg,0,ε⟩)]]⟩ _) _) _;refine wReg (Stop:=Gp prog link.tWg Wg C 4 jd i) (ds:=[dcall 55 #[ξ (ζ ⟨Wg,0,ε⟩)]]) (b:=bW) (k:=[]) (cs:=[xC]) (jd:=jd i) (F0:=F0) (w0:=w) (C:=C) (Wg:=Wg) z (by decide) M (λc w1 e=>S c [xC] w1 e)
  (λF O w T v _ _ y H E _=>jim z p y (r _ _ _ y) H E) 13 _ (cu 13 θ) _ F0 (λ_=>jb) _ lc lc ?_ (J.ext ?_) (hF.ext ?_) (λ_ h=>h) lc ?_ ?_ ?_
 .refine⟨lc,lc,lc,lc,lc,lc,λj U h=>?_⟩;have:(cu 13 θ).getD j θ=θ:=by
   have D:j<13:=by omega
   simp[D]
  rw[this]at h;cases h
 .exact⟨d.size,d.keep⟩
 .exact⟨d.size,d.keep⟩
 .intro h;cases h
 .exact λ_=>⟨lc,lc,⟨d.size,d.keep⟩⟩
 .intro h;cases h
end
end Ph
namespace Sim
open Go Go.Conc
def Lu (P:bK) (f:aN) (R:ac->ah->Prop) (fr:aw) (cs:fo aw) (w:ah):Prop:=cs=[c0]/\fr.fn=f/\∃v,fr.leaving P w (ψ v)/\R v w
section
variable {X:Cx} {Fb:aN->iO} {wr:iO}
theorem YA (S:X.Set Fb wr (λ_=>θ)) {args:eD ac} (d:Inv X Fb wr (ao X.P f args .normal) [c0] w) (hR:∀v w τ,R v (re w τ)->R v w)
  (hc:∀τ,Agree w τ->aL X.P f args (re w τ) fun|.returned v,w'=>R v w'|_,_=>jb):oI X.P (Lu X.P f R) (ao X.P f args .normal) [c0] w:=by
 refine bar S (λfr cs w h=>?_) (λfr cs w τ z y h=>?_) d (λτ y=>?_);{obtain⟨-,-,v,h,-⟩:=h;intro ch e;rw[h.1]at e;cases e}
 .obtain⟨e,G,v,⟨J,M,U,fn,V,Y⟩,hr⟩:=h;refine⟨e,G,v,⟨J,M,U,fn,V,?_⟩,hR _ _ _ hr⟩;obtain⟨ρ,fD,up,up',w',e0,hf,-,hw,-,-⟩:=z.re τ;rcases fA:(results fn fr.tmps).runT X.P (re w τ) #[]with⟨r0,I⟩
  have r:r0=.ok v (re w τ):=by rw[<-Y,<-bk X.P _ _ #[],fA]
  subst r;obtain⟨d1,d2,H⟩:=(SS.results (f:=fn) S.ok hf.tmps).fit hw fA;have:(results fn fr.tmps).runT X.P (shf w.tape (0,0) (re w τ)) #[]=_:=H w.tape (0,0) ⟨xzl _,λi q _ z=>(y i q z).symm⟩;rw[<-bk X.P _ _ #[]];have e:shf w.tape (0,0) (re w τ)=w:=lc;rw[e]at this;rw[this];rfl
 .obtain⟨e,w',fr,p,E,vH,D⟩:=hc τ y [c0];cases e with
  |panicked chain=>exact p.elim
  |outgrown=>exact p.elim
  |returned v=>obtain⟨n,hn⟩:=E;exact conv S (Q:=Lu X.P f R) ⟨lc,vH,v,D,p⟩ n (ι (d.re τ)) hn
end
end Sim
namespace Ph
section
open Go Go.Conc Go.ConcN Sim
theorem WG.frame {P:bK} {main:iO} {Stop:Blocks->Blocks->ax->ah->Prop} {H:Blocks}:∀{F O:Blocks} {g:ax} {w:ah},WG P main Stop F O g w->(∀b,H b->b<w.heap.size)->
  WG P main (λy O g w=>∃F,Stop F O g w/\(∀b,y b↔F b\/H b)/\∀b,H b->b<w.heap.size) (λb=>F b\/H b) O g w:=by
 rintro F O g w ⟨r,h⟩;induction r generalizing F O g w with
 |leaf=>exact λz=>WG.stop λw1 e=>⟨F,h w1 (e.sub λb hb=>ι hb),λ_=>Iff.rfl,λb hb=>xll (z b hb) e.size⟩
 |node f ih=>
  intro z;refine WG.step h.1 λw1 e=>?_;obtain⟨y,D,E,w',es,G,d,I⟩:=h.2 w1 (e.sub λb hb=>ι hb);have p:∀b,H b->b<w1.heap.size:=λb hb=>xll (z b hb) e.size;refine⟨λb=>y b\/H b,D,E,w',es,G,⟨λb hb=>hb.imp (d.sub b) id,d.ZK,λb hb=>?_,d.DZ,λb hb=>ι (d.own b hb),d.keep,d.size,λb hb=>hb.elim (d.low b) λx=>xll (p b x) d.size,d.drawn,d.tape,d.os,d.output,λx J=>?_,d.nb⟩,ih w1 I λb hb=>xll (p b hb) d.size⟩;{rcases hb with hb|hb;{exact(d.new b hb).imp ι id};exact ι (κ hb)}
  .have:=d.ev x J;obtain⟨loc,wt,M⟩:=x;cases loc with
   |cell a=>exact⟨this.1,ι this.2.1,this.2.2⟩
   |obj r=>exact⟨this.1,ι this.2.1,this.2.2⟩
   |mark m=>cases m<;>exact this
   |_=>exact this
theorem Xf {T:eD ac}:(results Tryz.f56 T).runT prog w #[]=(.ok (T.getD 6 ae) w,#[]):=by have e:Tryz.f56.results=#[.tmp 6]:=rfl;simp[results,e,go_sem]
theorem qp3 {T:eD ac} {v:ac} (h:(results Tryz.f56 T).run prog w=.ok v w'):v=T.getD 6 ae:=by rw[<-bk _ _ _ #[],Xf]at h;injection h with h _;exact h.symm
theorem q5k {fn:Func} (h:prog.funcs[f]?=ζ fn) (e:f=56):fn=Tryz.f56:=by rw[e,func56]at h;exact(xoi h).symm
def dm (db mb:dw):dw->Prop:=λb=>b=db\/b=mb
def rdm (db mb:dw):Rel:=λa b=>a=b/\dm db mb a
def Ck (db mb:dw) (m:ac) (w:ah):ah:={w with heap:=w.heap.mapIdx λb o=>if b=db then ω #[m] 142 (0,1)else if b=mb then o else ω #[] 0}
section
variable {db mb:dw} {es:eD bO} {clock:dw} {s t:bn} {F0:Blocks} {w1:ah} {R:ac->ah->Prop} {jd:Blocks->ac->ah->Prop}
theorem q7r (hF:FOk F0 (λ_=>jb) w1) (wN:F0 db) (SK:F0 mb) (fG:db≠mb) (V:w1.heap[db]?=ζ (ω #[.map (ζ mb)] 142 (0,0))) (hm:w1.heap[mb]?=ζ (.map es clock)) (kH:∀(F:aN->Prop) ρ,EsR F ρ es.toList es.toList)
  (zI:∀I,I.heap[db]?=ζ (ω #[.map (ζ mb)] 142 (0,1))->I.heap[mb]?=ζ (.map es clock)->aL prog 56 #[ξ (ζ ⟨db,0,ε⟩),Γ s,Γ t] I fun|.returned v,w'=>R v w'|_,_=>jb)
  (hR:∀v w τ,R v (re w τ)->R v w)
  (htr:∀ρ v v' w w',R v w->VR (λf=>fbP f=η) ρ v v'->WN (XW (dm db mb)) ρ w w'->jd (rng ρ) v' w') (hmono:∀F J v w,jd F v w->(∀b,F b->J b)->jd J v w) (c:aw) (cs:fo aw):
  WG prog θ (AtRet prog jd (c::cs)) F0 (λ_=>jb) (G (ao prog 56 #[ξ (ζ ⟨db,0,ε⟩),Γ s,Γ t] .normal) (c::cs)) w1:=by
 have S:=jnj (dm db mb);have eZ:db<w1.heap.size:=(j5 V).1;have hltm:mb<w1.heap.size:=(j5 hm).1;have i1:(Ck db mb (.map (ζ mb)) w1).heap[db]?=ζ (ω #[.map (ζ mb)] 142 (0,1)):=by simp only[Ck,Array.getElem?_mapIdx,V,Option.map_some,jC]
 have i2:(Ck db mb (.map (ζ mb)) w1).heap[mb]?=ζ (.map es clock):=by simp only[Ck,Array.getElem?_mapIdx,hm,Option.map_some,gF (bF fG),jC]
 have su:WR (XW (dm db mb)) (rdm db mb) (Ck db mb (.map (ζ mb)) w1) w1:=by refine⟨λh M=>h.1.symm.trans M.1,λh M=>h.1.trans M.1.symm,λ{a b} D=>?_,λ_ _=>lc,λa ha=>?_⟩;{obtain⟨rfl,h|h⟩:=D;{subst h;exact⟨_,_,i1,V,.cells (.cons (.map ⟨lc,κ lc⟩) .nil) (κ lc)⟩};subst h;exact⟨_,_,i2,hm,.map (kH _ _)⟩};rcases ha with h|h;{subst h;exact ι ⟨_,_,1,i1,by simp⟩};subst h;exact κ ⟨_,_,i2⟩
 have EZ:NB (Ck db mb (.map (ζ mb)) w1):=trivial;have iA:vw (λf=>fbP f=η) (rdm db mb) [ξ (ζ ⟨db,0,ε⟩),Γ s,Γ t] [ξ (ζ ⟨db,0,ε⟩),Γ s,Γ t]:=.cons (.ptr ⟨lc,ι lc⟩) (.cons (.string s) (.cons (.string t) .nil));have U:(XW (dm db mb)).F 56:=by show fbP _=η;decide
 have uy:FR (XW (dm db mb)) fbP θ (rdm db mb) (ao prog 56 #[ξ (ζ ⟨db,0,ε⟩),Γ s,Γ t] .normal) (ao prog 56 #[ξ (ζ ⟨db,0,ε⟩),Γ s,Γ t] .normal):=WH S U lc iA;have hB:Bot [ao prog 56 #[ξ (ζ ⟨db,0,ε⟩),Γ s,Γ t] .normal]:=by intro f hf;simp at hf;subst hf;rfl
 have z:Inv (XW (dm db mb)) fbP θ (ao prog 56 #[ξ (ζ ⟨db,0,ε⟩),Γ s,Γ t] .normal) [c0] (Ck db mb (.map (ζ mb)) w1):=⟨rdm db mb,_,[],[],w1,lc,uy,.nil,su,EZ,hB⟩
 have jeg:=YA S z hR λτ _=>zI (re (Ck db mb (.map (ζ mb)) w1) τ) i1 i2;have Tk:∀fr cs w,Lu prog 56 R fr cs w->∀ch,fr.mode≠.panicking ch:=λfr cs w ⟨_,_,v,h,_⟩ ch e=>by rw[h.1]at e;cases e
 have Y:=jhr S θ (c::cs) Tk jeg (up:=[]) (up':=[]) lc uy .nil (WN.of su) EZ hB;have Z7:=WG.frame (H:=F0) Y hF.low;have eF:(λb=>rng (rdm db mb) b\/F0 b)=F0:=by funext b;refine ky ⟨λh=>h.elim (λ⟨a,p,r⟩=>?_) id,.inr⟩;subst p;rcases r with rfl|rfl;{exact wN};exact SK
 have eO:own (XW (dm db mb)) (rdm db mb)=λ_=>jb:=by funext b;exact ky ⟨λ⟨a,p,r⟩=>r p.2,False.elim⟩
 rw[eF,eO]at Z7;refine WG.then Z7 ?_;rintro J O g w ⟨F,hst,E,jS⟩;refine WG.stop λw2 e2=>?_;cases hst with
 |special _ h=>cases h
 | @done ρ fr fD up up' I w' p r h3 h4 h5 h6=>
  obtain⟨hc,vH,v,uq,hr⟩:=h6;have wL:up=[]:=by have:=je dQ hc;simp at this;exact au (by simpa using this)
  subst wL;cases r;obtain⟨l1,l2,l3,fn,l4,l5⟩:=uq;have y:=h3.ext (e2.sub λb hb=>(E b).2 (ι hb));obtain rfl:=q5k l4 vH;obtain rfl:=qp3 l5;have JX:VR (λf=>fbP f=η) ρ (fr.tmps.getD 6 ae) (fD.tmps.getD 6 ae):=vw.Eh p.tmps 6;refine⟨⟨λb hb=>?_,λb hb=>?_⟩,fD.tmps.getD 6 ae,hmono _ _ _ _ (htr ρ _ _ _ _ hr JX y) (λb hb=>(E b).2 (ι hb)),lc,λc' gD e w3=>?_⟩;{rcases(E b).1 hb with⟨a,D⟩|hb;{obtain⟨τ,_,k⟩:=y;obtain⟨o,o',_,k2,_⟩:=k.heap D;exact(j5 k2).1};exact xll (jS b hb) e2.size};{obtain⟨a,D,_⟩:=hb;exact(E b).2 (ι ⟨a,D⟩)}
  .cases e;have m1:fD.mode=.returning:=p.mode.trans l1;have m2:fD.defers=[]:=by have:=p.defers;rw[l2]at this;generalize fD.defers=d at this;cases this;rfl
   have m3:prog.funcs[fD.fn]?=ζ Tryz.f56:=by rw[p.fn,vH];exact func56
   show bI prog θ (G fD (c::cs)) w3=_;rw[Ae _ _ _ _ _ m1];obtain⟨Hy,NE,jex,IV,Ij,Ip,Vo⟩:=fD;obtain rfl:Ip=.normal:=p.kind';obtain rfl:IV=[]:=m2;obtain rfl:Ij=.returning:=m1;have m3:prog.funcs[Hy]?=ζ Tryz.f56:=m3;unfold unwind;dsimp only;rw[m3];dsimp only;rw[Xf];rfl
end
end
section
open Go.Conc Go.ConcN Go.RowKit Go.Conc.Lib Go.ConcR.Gen Go.ConcN.Gen Go Sim
open Go.ConcR (KK wgBlock WgAt stA smA rd wr mk Payload Aside2 DC0 ofEvent_cell)
section
variable {P:bK} {ty:bZ} {Wg:dw} {F:Blocks} {w0:ah} {Stop:ax->ah->Prop}
theorem q1k:∀(m:dw) {g:ax} {w:ah},Goes P η (RM ty Wg F) DC0 Stop m g w->Ext F w0 w->Goes P η (RM ty Wg F) DC0 (λg w=>Stop g w/\Ext F w0 w) m g w:=by
 intro m;induction m with
 |zero=>exact λh e w1 r=>⟨h w1 r,e.trans r.ext⟩
 |succ m ih=>
  intro g w h e;rcases h with h|⟨d,p⟩;{exact ι λw1 r=>⟨h w1 r,e.trans r.ext⟩}
  .refine κ ⟨d,λw1 r=>?_⟩;have:=p w1 r;cases hs:bI P η g w1 with
   |go g' w' es=>rw[hs,bQ]at this;rw[bQ];refine⟨this.1,ih this.2 ?_⟩;obtain⟨rfl,_⟩:=this.1;exact e.trans r.ext
   |_=>rw[hs]at this;exact this.elim
theorem MG.keep (h:MG P ty Wg F Stop g w) (e:Ext F w0 w):MG P ty Wg F (λg w=>Stop g w/\Ext F w0 w) g w:=let⟨m,h⟩:=h;⟨m,q1k m h e⟩
theorem qxf {p:ax->ah->Prop} (d:∀g w,Stop g w->p g w):∀(m:dw) {g:ax} {w:ah},Goes P η (RM ty Wg F) DC0 Stop m g w->Goes P η (RM ty Wg F) DC0 p m g w:=by
 intro m;induction m with
 |zero=>exact λh w1 r=>d _ _ (h w1 r)
 |succ m ih=>
  intro g w h;rcases h with h|⟨y,z⟩;{exact ι λw1 r=>d _ _ (h w1 r)}
  .refine κ ⟨y,λw1 r=>?_⟩;have:=z w1 r;cases d:bI P η g w1 with
   |go g' w' es=>rw[d,bQ]at this;rw[bQ];exact⟨this.1,ih this.2⟩
   |_=>rw[d]at this;exact this.elim
theorem MG.mono {d:ax->ah->Prop} (h:MG P ty Wg F Stop g w) (p:∀g w,Stop g w->d g w):MG P ty Wg F d g w:=let⟨m,h⟩:=h;⟨m,qxf p m h⟩
theorem jT.keep {m:Mark} {K':ax->ah->Prop} (h:jT P m K g w) (d:∀g,K g w->K' g w):jT P m K' g w:=
 ⟨h.1,let⟨g',h1,h2⟩:=h.2;⟨g',h1,d _ h2⟩⟩
theorem jax {v:ac} (d:¬F Wg) (e:Ext F w0 w):Ext F w0 (w.setCell (stA Wg) v):=
 e.trans ⟨Nat.le_of_eq (bg w (stA Wg) v).size.symm,λb h=>(bg w (stA Wg) v).block b λ(x:b=Wg)=>d (by rw[<-x];exact h)⟩
theorem q37 (U:¬F Wg) (h:MG P ty Wg F (jT P .disable (MG P ty Wg F (yD P ty Wg F (MG P ty Wg F K)))) g w) (e:Ext F w0 w):
  MG P ty Wg F (jT P .disable (MG P ty Wg F (yD P ty Wg F (MG P ty Wg F (λg w=>K g w/\Ext F w0 w))))) g w:=by
 refine(h.keep e).mono λg w ⟨M,G⟩=>M.keep λg S=>(S.keep G).mono λg w ⟨z,H⟩=>⟨z.1,λv V Y=>?_⟩
 obtain⟨J,k1,k2⟩:=z.2 v V Y;have y:Ext F w0 (w.setCell (stA Wg) (.int .u64 ((v+1)*KK))):=jax U H;refine⟨J,k1,k2.imp (λ⟨a,b⟩=>⟨a,?_⟩) (λ⟨a,b⟩=>⟨a,?_⟩)⟩;{exact(b.keep y).mono λg w ⟨d,r⟩=>d.keep λg D=>(D.keep r).mono λg w ⟨E,I⟩=>E.keep λg p=>p.keep I};exact(b.keep y).mono λg w ⟨d,r⟩=>d.keep λg p=>p.keep r
theorem q38 {K':ax->ah->Prop} (y:∀g w,K g w->K' g w) (h:MG P ty Wg F (jT P .disable (MG P ty Wg F (yD P ty Wg F (MG P ty Wg F K)))) g w):
  MG P ty Wg F (jT P .disable (MG P ty Wg F (yD P ty Wg F (MG P ty Wg F K')))) g w:=
 h.mono λg w G=>G.keep λg H=>H.mono λg w r=>⟨r.1,λv I J=>by
  obtain⟨E,M,S⟩:=r.2 v I J;refine⟨E,M,S.imp (λ⟨a,b⟩=>⟨a,?_⟩) (λ⟨a,b⟩=>⟨a,?_⟩)⟩;{exact b.mono λg w d=>d.keep λg z=>z.mono λg w D=>D.keep λg p=>p.mono y}
  .exact b.mono λg w d=>d.keep λg p=>p.mono y⟩
end
abbrev fS:aN:=27
def bS:aw:=base fS
noncomputable def uZ:=Tryz.f27.body.getD .skip
noncomputable def CG:=match uZ with|.seq _ (.seq _ (.seq _ (.seq _ c)))=>c|_=>.skip
noncomputable def sL:=match CG with|.seq (.seq _ (.block _ (.loop c))) _=>c|_=>.skip
noncomputable def sR:=match CG with|.seq _ c=>c|_=>.skip
noncomputable def sIn:=match sL with|.seq _ (.seq _ (.seq (.block _ c) _))=>c|_=>.skip
noncomputable def rg:Code->eD Oper|.region _ ops _=>ops|_=>#[]
noncomputable def R6:=match sL with|.seq a _=>rg a|_=>#[]
noncomputable def R10:=match sL with|.seq _ (.seq _ (.seq _ a))=>rg a|_=>#[]
noncomputable def R7:=match sIn with|.seq a _=>rg a|_=>#[]
noncomputable def R8:=match sIn with|.seq _ (.seq a _)=>rg a|_=>#[]
noncomputable def R9:=match sIn with|.seq _ (.seq _ a)=>rg a|_=>#[]
theorem jm9:sL=.seq (.region 6 R6 θ) (.seq (.cond (.tmp 19) .skip (.exit 0)) (.seq (.block 1 sIn) (.region 10 R10 θ))):=rfl
theorem jhi:sIn=.seq (.region 7 R7 θ) (.seq (.region 8 R8 θ) (.region 9 R9 θ)):=rfl
structure ScT (kb cb fb tb C Wg:dw) (T:eD ac):Prop where
 size:T.size=42
 t4:T.getD 4 ae=ξ (ζ ⟨cb,0,ε⟩)
 t5:T.getD 5 ae=ξ (ζ ⟨fb,0,ε⟩)
 t6:T.getD 6 ae=ξ (ζ ⟨tb,0,ε⟩)
 t10:T.getD 10 ae=ξ (ζ ⟨C,0,ε⟩)
 t11:T.getD 11 ae=ξ (ζ ⟨Wg,0,ε⟩)
 t12:T.getD 12 ae=ξ (ζ ⟨kb,0,ε⟩)
section
variable {kb cb fb tb C Wg:dw} {T:eD ac} {F:Blocks} {w:ah} {k:fo Item} {cs:fo aw}
def clW (Wg cb kb fb tb C:dw):ac:=.func (.func fW) #[] #[ξ (ζ ⟨Wg,0,ε⟩),ξ (ζ ⟨cb,0,ε⟩),ξ (ζ ⟨kb,0,ε⟩),ξ (ζ ⟨fb,0,ε⟩),ξ (ζ ⟨tb,0,ε⟩),ξ (ζ ⟨C,0,ε⟩)]
def T9 (Wg cb kb fb tb C:dw) (T:eD ac):eD ac:=(T.setIfInBounds 21 (ο #[])).setIfInBounds 22 (clW Wg cb kb fb tb C)
def Rt (Wg cb kb fb tb C:dw) (T:eD ac) (k:fo Item) (cs:fo aw) (g:ax) (_:ah):Prop:=g=G (bS.at ⟨T9 Wg cb kb fb tb C T,[]⟩ (π R9 [1]::k)) cs
theorem q00 (d:ScT kb cb fb tb C Wg T) (w:ah):Goes prog η (RM link.tWg Wg F) DC0 (Rt Wg cb kb fb tb C T k cs) 3
  (G (bS.at ((ai T []).put ((R8[0]?).bind (·.dst)) (ο #[])) (π R8 []::.code (.region 9 R9 θ)::k)) cs) w:=by
 refine Goes.step lc λw1 _=>?_;rw[aq];simp only[bQ];refine⟨⟨lc,lc⟩,?_⟩;refine Goes.step lc λU _=>?_;rw[ay];simp only[bQ];refine⟨⟨lc,lc⟩,?_⟩;show Goes _ _ _ _ _ 1 (G (bS.at ⟨T.setIfInBounds 21 (ο #[]),[]⟩ (π R9 [0,1]::k)) cs) U;refine Goes.step lc λh _=>?_;obtain⟨o,S,H,J,M⟩:∃o,R9[0]?=ζ o/\o.op=.makeFunc (.func fW) #[] #[.tmp 11,.tmp 4,.tmp 12,.tmp 5,.tmp 6,.tmp 10]/\o.dst=ζ 22/\o.guard=ε:=⟨_,lc,lc,lc,lc⟩
 have I:aa o (az R9 (ai (T.setIfInBounds 21 (ο #[])) []).tmps)=η:=by unfold aa;rw[M]
 have ev:(al (ai (T.setIfInBounds 21 (ο #[])) []).eval o).run prog h=.ok (.value (clW Wg cb kb fb tb C)) h/\(al (ai (T.setIfInBounds 21 (ο #[])) []).eval o).events prog h #[]=#[]:=by have z:(ai (T.setIfInBounds 21 (ο #[])) []).eval (.tmp 4)=_:=(ja (by omega)).trans d.t4;have D:(ai (T.setIfInBounds 21 (ο #[])) []).eval (.tmp 5)=_:=(ja (by omega)).trans d.t5;have E:(ai (T.setIfInBounds 21 (ο #[])) []).eval (.tmp 6)=_:=(ja (by omega)).trans d.t6;have r:(ai (T.setIfInBounds 21 (ο #[])) []).eval (.tmp 10)=_:=(ja (by omega)).trans d.t10;have p:(ai (T.setIfInBounds 21 (ο #[])) []).eval (.tmp 11)=_:=(ja (by omega)).trans d.t11;have y:(ai (T.setIfInBounds 21 (ο #[])) []).eval (.tmp 12)=_:=(ja (by omega)).trans d.t12;generalize (ai (T.setIfInBounds 21 (ο #[])) []).eval=e at*;unfold al;constructor;{simp[go_sem,H,z,D,E,r,p,y,clW]};simp[go_sem,H,z,D,E,r,p,y]
 rw[aQ S I (by decide) ev.1];simp only[bQ];refine⟨⟨lc,?_⟩,?_⟩;{unfold listed;rw[ev.2,bN]};rw[J];exact λ_ _=>lc
theorem atGo {Next:ax->ah->Prop} (z:ScT kb cb fb tb C Wg T) (E:Rt Wg cb kb fb tb C T k cs g w)
  (M:PayAt C 4 w->Script prog link.tWg Wg C 4 jd i F (born prog (AY Wg cb kb fb tb C)) w) (I:Next (G (bS.at ⟨T9 Wg cb kb fb tb C T,[]⟩ (π R9 []::k)) cs) w):
  AtGoM prog link.tWg Wg C 4 jd i F Next g w:=by
 obtain rfl:=E;obtain⟨o,J,p,D,r⟩:∃o,R9[1]?=ζ o/\o.op=.go {callee:=.value (.tmp 22),args:=#[],argTypes:=#[]}/\o.dst=ε/\o.guard=ε:=⟨_,lc,lc,lc,lc⟩
 have y:aa o (az R9 (ai (T9 Wg cb kb fb tb C T) []).tmps)=η:=by unfold aa;rw[r]
 have ev:(al (ai (T9 Wg cb kb fb tb C T) []).eval o).run prog w=.ok (.spawn (AY Wg cb kb fb tb C)) w/\(al (ai (T9 Wg cb kb fb tb C T) []).eval o).events prog w #[]=#[]:=by have d:(ai (T9 Wg cb kb fb tb C T) []).eval (.tmp 22)=clW Wg cb kb fb tb C:=xu (by simp[z.size]);generalize (ai (T9 Wg cb kb fb tb C T) []).eval=e at*;unfold al;constructor;{simp[go_sem,p,d,clW,AY,resolve,Deferred.ofValue]};simp[go_sem,p,d,clW,resolve,Deferred.ofValue]
 have h:=stepG_spawn (P:=prog) (main:=η) (b:=bS) (k:=k) (cs:=cs) (rest:=[]) J y (by decide) ev.1 (f:=.func fW) (c:=#[ξ (ζ ⟨Wg,0,ε⟩),ξ (ζ ⟨cb,0,ε⟩),ξ (ζ ⟨kb,0,ε⟩),ξ (ζ ⟨fb,0,ε⟩),ξ (ζ ⟨tb,0,ε⟩),ξ (ζ ⟨C,0,ε⟩)]) lc;rw[D]at h;have H:listed prog bS.fn (ai (T9 Wg cb kb fb tb C T) []) o w=#[]:=by unfold listed;rw[ev.2,bN]
 rw[H]at h;exact⟨lc,_,_,h,lc,M,I⟩
theorem sAdd {Next:ax->ah->Prop} (d:ScT kb cb fb tb C Wg T) (y:¬F Wg) (z:WgLive link.tWg Wg w)
  (E:∀w1,Ext F w w1->PayAt C 4 w1->Script prog link.tWg Wg C 4 jd i F (born prog (AY Wg cb kb fb tb C)) w1) (D:∀w1,Ext F w w1->Next (G (bS.at ⟨T9 Wg cb kb fb tb C T,[]⟩ (π R9 []::k)) cs) w1):
  MG prog link.tWg Wg F (jT prog .disable (MG prog link.tWg Wg F (yD prog link.tWg Wg F (MG prog link.tWg Wg F (AtGoM prog link.tWg Wg C 4 jd i F Next)))))
   (G (ao prog 53 #[ξ (ζ ⟨Wg,0,ε⟩),σ υ 1] .normal) (bS.at ⟨T,[]⟩ (π R8 [0]::.code (.region 9 R9 θ)::k)::cs)) w:=by
 have p:=add1 (F:=F) ND (K:=Rt Wg cb kb fb tb C T k cs) (b₀:=bS) (a₀:=⟨T,[]⟩) (ops₀:=R8) (i₀:=0) (rest₀:=[]) (k₀:=.code (.region 9 R9 θ)::k) (cs:=cs) (λw _=>q00 d w) w z;have r:=q37 y p (Ext.refl F w);rw[enter_at _ func53 (show Tryz.f53.body=ζ (body_add link)from lc)]
 walk_nrmf Tryz.f53
 exact q38 (λg w ⟨h,e⟩=>atGo d h (E w e) (D w e)) r
end
structure ScH (mo:ac) (cb fb tb C Wg i:dw) (T:eD ac):Prop where
 size:T.size=42
 t4:T.getD 4 ae=ξ (ζ ⟨cb,0,ε⟩)
 t5:T.getD 5 ae=ξ (ζ ⟨fb,0,ε⟩)
 t6:T.getD 6 ae=ξ (ζ ⟨tb,0,ε⟩)
 t10:T.getD 10 ae=ξ (ζ ⟨C,0,ε⟩)
 t11:T.getD 11 ae=ξ (ζ ⟨Wg,0,ε⟩)
 t18:T.getD 18 ae=σ υ i
 t3:T.getD 3 ae=mo
theorem jmh:(prog.funcs[bS.fn]?).any (·.norace)=θ:=by kernel_rfl
section
variable {mo:ac} {cb fb tb C Wg i:dw} {T:eD ac} {F O:Blocks} {w:ah} {k:fo Item} {cs:fo aw} {Stop:Blocks->Blocks->ax->ah->Prop}
theorem jeu (r:ScH mo cb fb tb C Wg i T) (hF:FOk F O w) {b:iO} (z:ν ((i:gU)<4)=b)
  (n:WG prog η Stop F O (G (bS.at ⟨T.setIfInBounds 19 (.bool b),[]⟩ (.code (if b then .skip else .exit 0)::.code (.seq (.block 1 sIn) (.region 10 R10 θ))::k)) cs) w):
  WG prog η Stop F O (G (bS.at ⟨T,[]⟩ (.code sL::k)) cs) w:=by
 rw[jm9];refine WG.ctl lc hF (λw1=>aE) ?_;refine WG.ctl lc hF (λw1=>ay) ?_;change WG _ _ _ _ _ (G (bS.at ⟨T,[]⟩ (π R6 [0]::_)) cs) w;obtain⟨o,I,p,E,H⟩:∃o,R6[0]?=ζ o/\o.op=.binOp .lss 3 (.tmp 18) (.const (σ υ 4)) 3/\o.dst=ζ 19/\o.guard=ε:=⟨_,lc,lc,lc,lc⟩
 have y:aa o (az R6 (ai T []).tmps)=η:=by unfold aa;rw[H]
 refine WG.value (.bool b) hF I y (by decide) (λw1 _=>?_) ?_;{have d:(ai T []).eval (.tmp 18)=σ υ i:=r.t18;have h:(ai T []).eval (.const (σ υ 4))=σ υ 4:=lc;generalize (ai T []).eval=e at*;unfold al;constructor;{simp[go_sem,p,d,h,z]};simp[go_sem,p,d,h]};rw[E];change WG _ _ _ _ _ (G (bS.at ⟨T.setIfInBounds 19 (.bool b),[]⟩ (π R6 []::_)) cs) w;refine WG.ctl lc hF (λw1=>aq) ?_;refine WG.ctl lc hF (λw1=>aE) ?_;have D:(ai (T.setIfInBounds 19 (.bool b)) []).eval (.tmp 19)=.bool b:=xu (by rw[r.size];omega);exact WG.ctl lc hF (λw1=>stepG_cond D) n
def grown (w:ah):ah:={w with heap:=w.heap.push (ω #[σ υ 0] 3)}
theorem YG (d:o.op=.alloc 3) (w:ah):(al e o).run prog w=.ok (.value (ξ (ζ ⟨w.heap.size,0,ε⟩))) (grown w)/\(al e o).events prog w #[]=#[]:=by unfold al;constructor;{simp[go_sem,d,grown,Instr.alloc]};simp[go_sem,d,Instr.alloc]
theorem jhj {x y:bJ} {ad:Addr} {n:gU} {u:ac} (p:o.op=.store 3 x y) (r:e x=ξ (ζ ad)) (z:e y=σ υ n) {w:ah} (d:w.cell? ad=ζ u) (h:w.frozen? ad=θ):
  (al e o).run prog w=.ok .skip (w.setCell ad (σ υ n))/\(al e o).events prog w #[]=#[⟨.cell ad,η,θ⟩]:=by
 unfold al;simp only[p,r,z];constructor;{simp[go_sem,stored,d,h]};simp[go_sem,storedEv,d,h]
theorem QK {w:ah}:(grown w).heap.size=w.heap.size+1:=by show(w.heap.push _).size=_;rw[Array.size_push]
theorem Wv (hF:FOk F O w):qC F O w (λb=>F b\/b=w.heap.size) (λb=>O b\/b=w.heap.size) (grown w) #[]:=
 ⟨λ_ h=>ι h,λ_ h=>ι h,λb h=>h.imp id (λe=>by rw[e];exact jg _),λb h=>h.imp id (λe=>by rw[e];exact jg _),λb h=>h.imp (hF.own b) id,λb d _=>by
  show(w.heap.push _)[b]?=_;rw[am,gF (Nat.ne_of_lt d)],by rw[QK];omega,
  λb h=>by
   rw[QK];rcases h with h|h;{exact Nat.lt_succ_of_lt (hF.low b h)}
   .omega,⟨0,lc⟩,lc,lc,lc,by simp,NB.push λ_ _ e=>by cases e⟩
theorem qxh:(grown w).cell? ⟨w.heap.size,0,ε⟩=ζ (σ υ 0)/\(grown w).frozen? ⟨w.heap.size,0,ε⟩=θ:=by
 have h:(grown w).heap[w.heap.size]?=ζ (ω #[σ υ 0] 3):=by show(w.heap.push _)[_]?=_;rw[am,gJ lc]
 constructor;{simp[aG,h]};simp[bY,h]
theorem YF {w:ah} {v:ac} (hF:FOk F O w) (p:O kb):qC F O w F O (w.setCell ⟨kb,0,ε⟩ v) #[⟨.cell ⟨kb,0,ε⟩,η,θ⟩]:=by have d:=bg w ⟨kb,0,ε⟩ v;refine⟨λ_ h=>h,λ_ h=>h,λ_ h=>ι h,λ_ h=>ι h,hF.own,λb _ y=>d.block b λ(e:b=kb)=>y (e▸p),Nat.le_of_eq d.size.symm,λb h=>by rw[d.size];exact hF.low b h,⟨0,?_⟩,d.tape,d.os,d.output,λe r=>?_,λ_=>trivial⟩;{unfold World.setCell;rfl};rw[Array.mem_singleton]at r;subst r;exact⟨lc,hF.own _ p,λ_=>p⟩
def T7 (i kb:dw) (T:eD ac):eD ac:=((T.setIfInBounds 19 (.bool η)).setIfInBounds 20 (σ υ i)).setIfInBounds 12 (ξ (ζ ⟨kb,0,ε⟩))
theorem XO {F O F' d:Blocks} {w:ah} {es:eD dS} (h:qC F O w F' d w' es):FOk F' d w':=⟨h.low,h.own⟩
theorem jna (J:ScH mo cb fb tb C Wg i T) (hF:FOk F O w)
  (n:∀(kb:dw) (w3:ah),Ext F w w3->w.heap.size<=kb->w3.cell? ⟨kb,0,ε⟩=ζ (σ υ i)->FOk (λb=>F b\/b=kb) (λb=>O b\/b=kb) w3->WG prog η Stop (λb=>F b\/b=kb) (λb=>O b\/b=kb)
   (G (bS.at ⟨T7 i kb T,[]⟩ (π R8 [0]::.code (.region 9 R9 θ)::k)) cs) w3):
  WG prog η Stop F O (G (bS.at ⟨T.setIfInBounds 19 (.bool η),[]⟩ (.code sIn::k)) cs) w:=by
 rw[jhi];refine WG.ctl lc hF (λw1=>aE) ?_;refine WG.ctl lc hF (λw1=>ay) ?_;change WG _ _ _ _ _ (G (bS.at ⟨T.setIfInBounds 19 (.bool η),[]⟩ (π R7 [0,1,2]::_)) cs) w;obtain⟨o,ho,S,hd,hg⟩:∃o,R7[0]?=ζ o/\o.op=.move (.tmp 18)/\o.dst=ζ 20/\o.guard=ε:=⟨_,lc,lc,lc,lc⟩
 have fq:aa o (az R7 (ai (T.setIfInBounds 19 (.bool η)) []).tmps)=η:=by unfold aa;rw[hg]
 refine WG.value (σ υ i) hF ho fq (by decide) (λw1 _=>?_) ?_;{have M:(ai (T.setIfInBounds 19 (.bool η)) []).eval (.tmp 18)=σ υ i:=(ja (by omega)).trans J.t18;generalize (ai (T.setIfInBounds 19 (.bool η)) []).eval=e at*;unfold al;constructor;{simp[go_sem,S,M]};simp[go_sem,S,M]};rw[hd];change WG _ _ _ _ _ (G (bS.at ⟨(T.setIfInBounds 19 (.bool η)).setIfInBounds 20 (σ υ i),[]⟩ (π R7 [1,2]::_)) cs) w;obtain⟨o1,yL,jZ,hd1,lJ⟩:∃o,R7[1]?=ζ o/\o.op=.alloc 3/\o.dst=ζ 12/\o.guard=ε:=⟨_,lc,lc,lc,lc⟩
 have Eu:aa o1 (az R7 (ai ((T.setIfInBounds 19 (.bool η)).setIfInBounds 20 (σ υ i)) []).tmps)=η:=by unfold aa;rw[lJ]
 refine WG.step lc λw1 I=>?_;have E:=hF.ext I;have hs:=aQ (P:=prog) (main:=η) (b:=bS) (k:=.code (.seq (.region 8 R8 θ) (.region 9 R9 θ))::k) (cs:=cs) (rest:=[2]) yL Eu (by decide) (YG jZ w1).1;have hl:listed prog bS.fn (ai ((T.setIfInBounds 19 (.bool η)).setIfInBounds 20 (σ υ i)) []) o1 w1=#[]:=by unfold listed;rw[(YG jZ w1).2,bN]
 rw[hl,hd1]at hs;refine⟨_,_,_,_,_,hs,Wv E,?_⟩;have r:=XO (Wv E);change WG _ _ _ _ _ (G (bS.at ⟨T7 i w1.heap.size T,[]⟩ (π R7 [2]::_)) cs) (grown w1);obtain⟨o2,vE,Cb,S9,gV⟩:∃o,R7[2]?=ζ o/\o.op=.store 3 (.tmp 12) (.tmp 20)/\o.dst=ε/\o.guard=ε:=⟨_,lc,lc,lc,lc⟩
 have Pj:aa o2 (az R7 (ai (T7 i w1.heap.size T) []).tmps)=η:=by unfold aa;rw[gV]
 have OH:(ai (T7 i w1.heap.size T) []).eval (.tmp 12)=ξ (ζ ⟨w1.heap.size,0,ε⟩):=xu (by simp[J.size]);have H:(ai (T7 i w1.heap.size T) []).eval (.tmp 20)=σ υ i:=(ja (by omega)).trans (xu (by simp[J.size]));refine WG.step lc λd p=>?_;have iI:d.cell? ⟨w1.heap.size,0,ε⟩=ζ (σ υ 0)/\d.frozen? ⟨w1.heap.size,0,ε⟩=θ:=by have h:=p.keep w1.heap.size (κ lc);obtain⟨U,V⟩:=qxh (w:=w1);unfold aG at U|-;unfold bY at V|-;rw[h];exact⟨U,V⟩
 have y:=jhj (e:=(ai (T7 i w1.heap.size T) []).eval) Cb OH H iI.1 iI.2;have mq:=stepG_none (P:=prog) (main:=η) (b:=bS) (k:=.code (.seq (.region 8 R8 θ) (.region 9 R9 θ))::k) (cs:=cs) (rest:=[]) vE Pj (by decide) y.1;have nR:listed prog bS.fn (ai (T7 i w1.heap.size T) []) o2 d=#[⟨.cell ⟨w1.heap.size,0,ε⟩,η,θ⟩]:=by unfold listed;rw[y.2];exact seen_eq jmh (by simp)
 rw[nR,S9]at mq;refine⟨_,_,_,_,_,mq,YF (r.ext p) (κ lc),?_⟩;have z:=XO (YF (v:=σ υ i) (r.ext p) (κ lc:(λb=>O b\/b=w1.heap.size) w1.heap.size));change WG _ _ _ _ _ (G (bS.at ⟨T7 i w1.heap.size T,[]⟩ (π R7 []::_)) cs) _;refine WG.ctl lc z (λw1=>aq) ?_;refine WG.ctl lc z (λw1=>aE) ?_;refine WG.ctl lc z (λw1=>ay) ?_;change WG _ _ _ _ _ (G (bS.at ⟨T7 i w1.heap.size T,[]⟩ (π R8 [0]::_)) cs) _;refine n w1.heap.size _ ?_ I.size ?_ z;{refine I.trans ⟨?_,λb D=>?_⟩;{have:=p.size;rw[(bg d ⟨w1.heap.size,0,ε⟩ (σ υ i)).size];rw[QK]at this;omega};have eZ:=E.low b D;rw[(bg d ⟨w1.heap.size,0,ε⟩ (σ υ i)).block b (λ(e:b=w1.heap.size)=>by omega),p.keep b (ι D)];show(w1.heap.push _)[b]?=_;rw[am,gF (Nat.ne_of_lt eZ)]}
 .have Y:d.heap[w1.heap.size]?=ζ (ω #[σ υ 0] 3 (0,0)):=by rw[p.keep _ (κ lc)];show(w1.heap.push _)[_]?=_;rw[am,gJ lc]
  have D:(d.setCell ⟨w1.heap.size,0,ε⟩ (σ υ i)).heap[w1.heap.size]?=ζ (ω (#[σ υ 0].setIfInBounds 0 (σ υ i)) 3):=by rw[setCell_eq_setRow d w1.heap.size 0 #[σ υ 0] _ (0,0) _ Y,setRow_heap d w1.heap.size _ _ _ _ Y]
  simp[aG,D]
end
section
variable {mo:ac} {cb fb tb C Wg:dw} {k:fo Item} {cs:fo aw} {jd:dw->Blocks->ac->ah->Prop} {K:ax->ah->Prop}
theorem jnb {Stop:Blocks->Blocks->ax->ah->Prop} {T:eD ac} (hi:i<4) (h:ScH mo cb fb tb C Wg i T) (hF:FOk F O w)
  (n:∀H,ScH mo cb fb tb C Wg (i+1) H->WG prog η Stop F O (G (bS.at ⟨H,[]⟩ (.code sL::.inLoop sL::k)) cs) w):
  WG prog η Stop F O (G (bS.at ⟨T9 Wg cb kb fb tb C (T7 i kb T),[]⟩ (π R9 []::.inBlock 1::.code (.region 10 R10 θ)::.inLoop sL::k)) cs) w:=by
 refine WG.ctl lc hF (λw1=>aq) ?_;refine WG.ctl lc hF (λw1=>cH) ?_;refine WG.ctl lc hF (λw1=>ay) ?_;have r:(T9 Wg cb kb fb tb C (T7 i kb T)).size=42:=by simp[T9,T7,h.size]
 have g:∀j,j≠12->j≠19->j≠20->j≠21->j≠22->(T9 Wg cb kb fb tb C (T7 i kb T)).getD j ae=T.getD j ae:=λj a b c d e=>by unfold T9 T7;rw[ja (bF e),ja (bF d),ja (bF a),ja (bF c),ja (bF b)]
 have g4:=(g 4 (by decide) (by decide) (by decide) (by decide) (by decide)).trans h.t4;have g5:=(g 5 (by decide) (by decide) (by decide) (by decide) (by decide)).trans h.t5;have g6:=(g 6 (by decide) (by decide) (by decide) (by decide) (by decide)).trans h.t6;have y:=(g 10 (by decide) (by decide) (by decide) (by decide) (by decide)).trans h.t10;have z:=(g 11 (by decide) (by decide) (by decide) (by decide) (by decide)).trans h.t11;have Y:=(g 3 (by decide) (by decide) (by decide) (by decide) (by decide)).trans h.t3;have D:=(g 18 (by decide) (by decide) (by decide) (by decide) (by decide)).trans h.t18;generalize T9 Wg cb kb fb tb C (T7 i kb T)=U at*;change WG _ _ _ _ _ (G (bS.at ⟨U,[]⟩ (π R10 [0,1]::_)) cs) w;obtain⟨o,ho,J,hd,hg⟩:∃o,R10[0]?=ζ o/\o.op=.binOp .add 3 (.tmp 18) (.const (σ υ 1)) 3/\o.dst=ζ 23/\o.guard=ε:=⟨_,lc,lc,lc,lc⟩
 have V:aa o (az R10 (ai U []).tmps)=η:=by unfold aa;rw[hg]
 refine WG.value (σ υ ((i+1:dw):gU)) hF ho V (by decide) (λw1 _=>?_) ?_
 .have E:(ai U []).eval (.tmp 18)=σ υ i:=D;have I:(ai U []).eval (.const (σ υ 1))=σ υ 1:=lc;have pW:IntKind.i64.wrap ((i:gU)+1)=((i+1:dw):gU):=by rw[bE];omega
  generalize (ai U []).eval=e at*;unfold al;constructor;{simp[go_sem,J,E,I,pW]};simp[go_sem,J,E,I]
 rw[hd];change WG _ _ _ _ _ (G (bS.at ⟨U.setIfInBounds 23 (σ υ ((i+1:dw):gU)),[]⟩ (π R10 [1]::_)) cs) w;obtain⟨o1,yL,M,hd1,lJ⟩:∃o,R10[1]?=ζ o/\o.op=.move (.tmp 23)/\o.dst=ζ 18/\o.guard=ε:=⟨_,lc,lc,lc,lc⟩
 have S:aa o1 (az R10 (ai (U.setIfInBounds 23 (σ υ ((i+1:dw):gU))) []).tmps)=η:=by unfold aa;rw[lJ]
 refine WG.value (σ υ ((i+1:dw):gU)) hF yL S (by decide) (λw1 _=>?_) ?_;{have p:(ai (U.setIfInBounds 23 (σ υ ((i+1:dw):gU))) []).eval (.tmp 23)=σ υ ((i+1:dw):gU):=xu (by rw[r];omega);generalize (ai (U.setIfInBounds 23 (σ υ ((i+1:dw):gU))) []).eval=e at*;unfold al;constructor;{simp[go_sem,M,p]};simp[go_sem,M,p]};rw[hd1];change WG _ _ _ _ _ (G (bS.at ⟨(U.setIfInBounds 23 (σ υ ((i+1:dw):gU))).setIfInBounds 18 (σ υ ((i+1:dw):gU)),[]⟩ (π R10 []::_)) cs) w;refine WG.ctl lc hF (λw1=>aq) ?_;refine WG.ctl lc hF (λw1=>stepG_inLoop) ?_;refine n _ ⟨by simp[r],?_,?_,?_,?_,?_,?_,?_⟩;{rw[ja (by decide),ja (by decide)];exact g4};{rw[ja (by decide),ja (by decide)];exact g5};{rw[ja (by decide),ja (by decide)];exact g6};{rw[ja (by decide),ja (by decide)];exact y};{rw[ja (by decide),ja (by decide)];exact z};{exact xu (by simp[r])};rw[ja (by decide),ja (by decide)];exact Y
theorem Iu {T:eD ac} (a:j≠12) (b:j≠19) (c:j≠20):(T7 i kb T).getD j ae=T.getD j ae:=by unfold T7;rw[ja (bF a),ja (bF c),ja (bF b)]
theorem ScH.t7 {T:eD ac} (d:ScH mo cb fb tb C Wg i T):ScT kb cb fb tb C Wg (T7 i kb T):=
 ⟨by simp[T7,d.size],(Iu (by decide) (by decide) (by decide)).trans d.t4,(Iu (by decide) (by decide) (by decide)).trans d.t5,(Iu (by decide) (by decide) (by decide)).trans d.t6,(Iu (by decide) (by decide) (by decide)).trans d.t10,
  (Iu (by decide) (by decide) (by decide)).trans d.t11,by unfold T7;exact xu (by simp[d.size])⟩
theorem starter {Fx:Blocks->ah->Prop} (z:∀F w w1,Fx F w->Ext F w w1->Fx F w1) (V:∀F F' w,Fx F w->(∀b,F b->F' b)->Fx F' w)
  (hs:∀i:dw,i<4->∀F w kb,Fx F w->FOk F (λ_=>jb) w->F kb->w.cell? ⟨kb,0,ε⟩=ζ (σ υ i)->Script prog link.tWg Wg C 4 jd i F (born prog (AY Wg cb kb fb tb C)) w)
  (h0:∀F O w T,ScH mo cb fb tb C Wg 4 T->FOk F O w->Fx F w->¬F Wg->WG prog η (Scr prog link.tWg Wg C 4 jd K 0) F O (G (bS.at ⟨T,[]⟩ (.code sL::.inLoop sL::k)) cs) w):
  ∀r i,i+r=4->∀T F O w,ScH mo cb fb tb C Wg i T->FOk F O w->Fx F w->¬F Wg->Wg<w.heap.size->WG prog η (Scr prog link.tWg Wg C 4 jd K r) F O (G (bS.at ⟨T,[]⟩ (.code sL::.inLoop sL::k)) cs) w:=by
 intro r;induction r with
 |zero=>
  intro i hi T F O w p hF S M _;obtain rfl:i=4:=by omega
  exact h0 F O w T p hF S M
 |succ r ih=>
  intro i hi T F O w p hF S M eZ;have rG:i<4:=by omega
  refine jeu p hF (b:=η) (xdt (by omega)) ?_;refine WG.ctl lc hF (λw1=>dx) ?_;refine WG.ctl lc hF (λw1=>aE) ?_;refine WG.ctl lc hF (λw1=>bR) ?_;refine jna p hF λkb w3 e3 iF iI FB=>?_;obtain⟨o,ho,eY,hd,hg⟩:∃o,R8[0]?=ζ o/\o.op=.call {callee:=.value (.func 53),args:=#[.tmp 11,.const (σ υ 1)],argTypes:=#[122,3]}/\o.dst=ζ 21/\o.guard=ε:=⟨_,lc,lc,lc,lc⟩
  have fq:aa o (az R8 (ai (T7 i kb T) []).tmps)=η:=by unfold aa;rw[hg]
  have ev:∀w1,(al (ai (T7 i kb T) []).eval o).run prog w1=.ok (.enter 53 #[ξ (ζ ⟨Wg,0,ε⟩),σ υ 1]) w1/\(al (ai (T7 i kb T) []).eval o).events prog w1 #[]=#[]:=λw1=>by have Dz:(ai (T7 i kb T) []).eval (.tmp 11)=ξ (ζ ⟨Wg,0,ε⟩):=(p.t7 (kb:=kb)).t11;have bc:(ai (T7 i kb T) []).eval (.const (σ υ 1))=σ υ 1:=lc;have bf:(ai (T7 i kb T) []).eval (.func 53)=.func (.func 53) #[] #[]:=lc;generalize (ai (T7 i kb T) []).eval=e at*;unfold al;constructor;{simp[go_sem,eY,Dz,bc,bf]};simp[go_sem,eY,Dz,bc,bf];simp[callFunc,go_sem,func53,Tryz.f53]
  refine WG.quiet lc FB λw4 D=>⟨_,0,_,dl ho fq (by decide) (ev w4).1,λe' he=>?_,?_⟩
  .have:=bP he;rw[(ev w4).2]at this;simp at this
  refine WG.stop λH E=>⟨lc,λhl=>?_⟩
  have y:Fx (λb=>F b\/b=kb) H:=z _ _ _ (z _ _ _ (V F _ _ (z _ _ _ S e3) (λb hb=>ι hb)) D) E;have Hu:¬(λb=>F b\/b=kb) Wg:=λh=>h.elim M λe=>by omega
  have J:=(FB.ext D).ext E;have U:H.cell? ⟨kb,0,ε⟩=ζ (σ υ i):=(yH (a:=⟨kb,0,ε⟩) ((D.trans E).keep kb (κ lc))).trans iI;have Uu:Wg<H.heap.size:=xll (xll eZ e3.size) (xlt D.size E.size);have I:FOk (λb=>F b\/b=kb) (λ_=>jb) H:=⟨J.low,λ_ h=>h.elim⟩
  have e0:4-(r+1)=i:=by omega
  rw[e0];exact sAdd p.t7 Hu hl (λY d _=>hs i rG _ Y kb (z _ _ _ y d) (I.ext d) (κ lc) ((yH (a:=⟨kb,0,ε⟩) (d.keep kb (κ lc))).trans U))
   (λY d=>jnb rG p (I.ext d) λT' xU=>ih (i+1) (by omega) T' _ _ Y xU (I.ext d) (z _ _ _ y d) Hu (xll Uu d.size))
end
section
variable {P:bK} {ty:bZ} {Wg:dw} {F:Blocks} {A K K':ax->ah->Prop}
theorem Em.mono (z:∀g w,K g w->K' g w) (h:Em P ty Wg F K g w):Em P ty Wg F K' g w:=
 MG.mono h λ_ _ d=>d.keep λ_ p=>MG.mono p λ_ _ r=>r.keep λ_ y=>z _ _ y
theorem En.mono (d:∀g w,K g w->K' g w) (h:En P ty Wg F K g w):En P ty Wg F K' g w:=
 ⟨h.1,λp=>let⟨g',a,b⟩:=h.2 p;⟨g',a,Em.mono d b⟩⟩
theorem zV.mono (d:∀g w,K g w->K' g w) (h:zV P ty Wg F K g w):zV P ty Wg F K' g w:=
 ⟨h.1,h.2.1,h.2.2.1,λp=>let⟨g',a,b⟩:=h.2.2.2 p;⟨g',a,MG.mono b λ_ _ h=>En.mono d h⟩⟩
theorem Eo.mono (r:∀g w,K g w->K' g w) {vs:dw} (h:Eo P ty Wg F A K vs g w):Eo P ty Wg F A K' vs g w:=
 ⟨h.1,λv d p=>⟨λe=>let⟨g',a,b⟩:=(h.2 v d p).1 e;⟨g',a,MG.mono b λ_ _ h=>h.keep λ_ h=>MG.mono h λ_ _ h=>zV.mono r h⟩,(h.2 v d p).2⟩⟩
theorem sZ.mono (d:∀g w,K g w->K' g w) (h:sZ P ty Wg F A K g w):sZ P ty Wg F A K' g w:=
 ⟨h.1,λv p r=>let⟨g',a,b,c⟩:=h.2 v p r;⟨g',a,λe=>Em.mono d (b e),λe=>MG.mono (c e) λ_ _ h=>Eo.mono d h⟩⟩
end
noncomputable def sT:=match sR with|.seq _ c=>c|_=>.skip
noncomputable def R11:=match sR with|.seq a _=>rg a|_=>#[]
theorem jnc:sR=.seq (.region 11 R11 θ) sT:=rfl
section
variable {mo:ac} {cb fb tb C Wg:dw} {k:fo Item} {cs:fo aw} {jd:dw->Blocks->ac->ah->Prop}
def Behind (mo:ac) (cb fb tb C Wg:dw) (k:fo Item) (cs:fo aw) (T0:eD ac) (g:ax) (_:ah):Prop:=g=G (bS.at ⟨T0.setIfInBounds 24 (ο #[]),[]⟩ (.code sT::k)) cs/\ScH mo cb fb tb C Wg 4 T0
def KS (mo:ac) (cb fb tb C Wg:dw) (k:fo Item) (cs:fo aw) (g:ax) (w:ah):Prop:= ∃F T,MG prog link.tWg Wg F (Behind mo cb fb tb C Wg k cs T) g w
theorem jnf {p:eD ac} (d:ScH mo cb fb tb C Wg 4 p) (hF:FOk F O w):
  WG prog η (Scr prog link.tWg Wg C 4 jd (KS mo cb fb tb C Wg k cs) 0) F O (G (bS.at ⟨p,[]⟩ (.code sL::.inLoop sL::.inBlock 0::.code sR::k)) cs) w:=by
 refine jeu d hF (b:=θ) (xdf (by decide)) ?_;refine WG.ctl lc hF (λw1=>stepG_exit lc) ?_;rw[jnc];refine WG.ctl lc hF (λw1=>aE) ?_;refine WG.ctl lc hF (λw1=>ay) ?_;have D:ScH mo cb fb tb C Wg 4 (p.setIfInBounds 19 (.bool θ)):=⟨by simp[d.size],(ja (by decide)).trans d.t4,(ja (by decide)).trans d.t5,(ja (by decide)).trans d.t6,(ja (by decide)).trans d.t10,(ja (by decide)).trans d.t11,(ja (by decide)).trans d.t18,(ja (by decide)).trans d.t3⟩
 change WG _ _ _ _ _ (G (bS.at ⟨p.setIfInBounds 19 (.bool θ),[]⟩ (π R11 [0]::_)) cs) w;generalize p.setIfInBounds 19 (.bool θ)=T at*;obtain⟨o,V,z,hd,S⟩:∃o,R11[0]?=ζ o/\o.op=.call {callee:=.value (.func 57),args:=#[.tmp 11],argTypes:=#[122]}/\o.dst=ζ 24/\o.guard=ε:=⟨_,lc,lc,lc,lc⟩
 have H:aa o (az R11 (ai T []).tmps)=η:=by unfold aa;rw[S]
 have ev:∀w1,(al (ai T []).eval o).run prog w1=.ok (.enter 57 #[ξ (ζ ⟨Wg,0,ε⟩)]) w1/\(al (ai T []).eval o).events prog w1 #[]=#[]:=λw1=>by have r:(ai T []).eval (.tmp 11)=ξ (ζ ⟨Wg,0,ε⟩):=D.t11;have y:(ai T []).eval (.func 57)=.func (.func 57) #[] #[]:=lc;generalize (ai T []).eval=e at*;unfold al;constructor;{simp[go_sem,z,r,y]};simp[go_sem,z,r,y];simp[callFunc,go_sem,func57,Tryz.f57]
 refine WG.quiet lc hF λE e4=>⟨_,0,_,dl V H (by decide) (ev E).1,λe' M=>?_,?_⟩
 .have:=bP M;rw[(ev E).2]at this;simp at this
 refine WG.stop λY e5=>⟨lc,λU=>?_⟩
 refine⟨Anch link Wg (bS.at ⟨T,[]⟩ (π R11 [0]::.code sT::k)) cs,λg w h=>by obtain⟨T,rfl,_⟩:=h;rfl,λg w h=>?_,?_⟩
 .have I:=waitRound (F:=F) ND (K:=Behind mo cb fb tb C Wg k cs T) (mT:=1) (b₀:=bS) (a₀:=⟨T,[]⟩) (ops₀:=R11) (i₀:=0) (rest₀:=[]) (k₀:=.code sT::k) (cs:=cs) (λw _=>by
   refine Goes.step lc λw1 _=>?_;rw[aq];simp only[bQ]
   exact⟨⟨lc,lc⟩,λ_ _=>⟨lc,D⟩⟩) g w h
  exact MG.mono I λg w h=>sZ.mono (λg w h=>⟨F,T,h⟩) h
 .have J:=waitStart (F:=F) (cs:=cs) ND (c:=bS.at ⟨T,[]⟩ (π R11 [0]::.code sT::k)) Y U;rw[enter_at _ func57 (show Tryz.f57.body=ζ (body_wait link)from lc)]
  walk_nrmf Tryz.f57
  exact J
end
theorem qwk {mo:ac} {fb tb C Wg o L0:dw} {k:fo Item} {a:ax} {w0:ah} {sl:gI (dw×dw)} {D:dw->WX} {E:Blocks}
  (y:Joined prog o Wg C 4 SB jd (KS mo cb fb tb C Wg k cs) L0 w0 gs a w t D E q):
  ∃(N:dw) (p:eD ax) (T:eD ac) (d:dw) (r:gI (dw×dw)) (t':dU) (z:dw->dw),runNT prog N (crowd gs w sl) t=(.next (crowd p (w.at d) r),t')/\p.size=gs.size/\
   p[0]?=ζ (G (bS.at ⟨T.setIfInBounds 24 (ο #[]),[]⟩ (.code sT::k)) cs)/\ScH mo cb fb tb C Wg 4 T/\du prog t' p z/\kR (λb=>SB b\/b=Wg) (w.at d) p.size t':=by
 obtain⟨F,T,m,Y⟩:=y.k;obtain⟨N,p,a',d,r,t',z,H,I,J,⟨M,S⟩,U,V⟩:=qwo (P:=prog) (SB:=λb=>SB b\/b=Wg) (R:=RM link.tWg Wg F) (Stop:=Behind mo cb fb tb C Wg k cs T) (λw d=>⟨⟨jg _,λ_ _=>lc⟩,id⟩) (λg w h=>by rw[h.1];rfl) m gs a w sl t q y.main y.leavers y.past Y;subst M;exact⟨N,p,T,d,r,t',z,H,I,J,S,U,V⟩
end
section
open Go Go.Conc Go.ConcN Sim
section
variable {X:Cx} {Fb:aN->iO} {sp:aN->iO}
theorem PO (sG:X.P'=X.P) (S:X.Set Fb η sp) {v:ac} (J:kJ X.P X.P' Fb η o=η) (he:EvR X.F Fb ρ e e) (D:WR X ρ w w) (z:(al e o).run X.P w=.ok (.value v) w1):
  ∃d,ρ.le d/\WR X d w1 w1/\VR X.F d v v/\qC (rng ρ) (own X ρ) w (rng d) (own X d) w1 ((al e o).events X.P w #[])/\(NB w->NB w1):=by
 have hs:=SS.execOp S.ok η S.wrs o J e e he;obtain⟨d,E,M,U,p,r,y,h4,V,Y,h7⟩:=hs.1 w w _ w1 #[] D z;rw[sG]at p;have h:=je Prod.fst p;rw[bk,z]at h;have h:(Result.ok (Next.value v) w1:Result Next)=.ok E M:=h;injection h with G I;subst G;subst I;have H:(al e o).events X.P w #[]=U:=by have:=je Prod.snd p;simpa[dW]using this
 cases Y with
 |value hv=>exact⟨d,y.le,r,hv,by rw[H];exact Ji D y r V,λ_=>trivial⟩
end
end
section
open Go.Conc Go.ConcN Go.RowKit Go.Conc.Lib Go.ConcR.Gen Go.ConcN.Gen Go Sim
open Go.ConcR (KK wgBlock WgAt stA smA rd wr mk Payload Aside2 DC0 ofEvent_cell)
def zZ (w:ah):ah:={w with heap:=w.heap.push (wgBlock link.tWg 0 0)}
theorem ZC (d:o.op=.alloc 122) (w:ah):(al e o).run prog w=.ok (.value (ξ (ζ ⟨w.heap.size,0,ε⟩))) (zZ w)/\(al e o).events prog w #[]=#[]:=by unfold al;constructor;{simp[go_sem,d,zZ,Instr.alloc,wgBlock]};simp[go_sem,d,Instr.alloc]
theorem q1l:WgAt link.tWg w.heap.size (zZ w) 0 0:=by show(w.heap.push _)[_]?=_;rw[am,gJ lc]
noncomputable def R4:=match uZ with|.seq _ (.seq _ (.seq _ (.seq a _)))=>rg a|_=>#[]
theorem qxg {a:Act} {k:fo Item} {sl:gI (dw×dw)} (U:gs[0]?=ζ (G (bS.at a (π R4 [0]::k)) cs)) (hL:du prog t gs q) (D:kR SB w gs.size t):
  ∃(h:eD ax) (d:dw) (p:gI (dw×dw)) (t':dU) (y:dw->dw),Runs prog gs w sl t h (zZ (w.at d)) p t'/\h.size=gs.size/\h[0]?=ζ (G (bS.at (a.put (ζ 11) (ξ (ζ ⟨w.heap.size,0,ε⟩))) (π R4 []::k)) cs)/\
   du prog t' h y/\kR SB (zZ (w.at d)) h.size t'/\WgAt link.tWg w.heap.size (zZ (w.at d)) 0 0/\∀x:Addr,x.block=w.heap.size->rU t' (.cell x):=by
 obtain⟨o,ho,r,hd,hg⟩:∃o,R4[0]?=ζ o/\o.op=.alloc 122/\o.dst=ζ 11/\o.guard=ε:=⟨_,lc,lc,lc,lc⟩
 have S:aa o (az R4 a.tmps)=η:=by unfold aa;rw[hg]
 have E:∀d,bI prog η (G (bS.at a (π R4 [0]::k)) cs) (w.at d)=.go (G (bS.at (a.put (ζ 11) (ξ (ζ ⟨w.heap.size,0,ε⟩))) (π R4 []::k)) cs) (zZ (w.at d)) #[]:=λd=>by
  have hl:listed prog bS.fn a o (w.at d)=#[]:=by unfold listed;rw[(ZC r _).2,bN]
  have:=aQ (P:=prog) (main:=η) (b:=bS) (k:=k) (cs:=cs) (rest:=[]) ho S (by decide) (ZC (e:=a.eval) r (w.at d)).1;rw[hl,hd]at this;exact this
 have M:∀d,(zZ (w.at d)).heap.size=w.heap.size+1:=λd=>by show(w.heap.push _).size=_;rw[Array.size_push]
 obtain⟨N,h,a',d,w',es,p,t',y,V,z,Y,h4,h5,h6,h7⟩:=Af (P:=prog) (SB:=SB) (sl:=sl) U lc hL D λd=>⟨_,_,_,E d,by rw[M];exact Nat.le_succ _,by simp⟩
 rw[E d]at z;injection z with H I J;subst H;subst I;subst J;refine⟨h,d,p,t',y,⟨N,V⟩,Y,h4,h5,h6,q1l (w:=w.at d),λx hx=>h7 _ (X8 (B:=w.heap.size) (λop r=>D.seen op r) (by omega)) (by simp)⟩
end
section
open Go Go.Conc Go.ConcN Sim
section
variable {P:bK} {b:aw} {a:Act} {k:fo Item} {cs gD:fo aw} {ops:eD Oper} {i:dw} {rest:fo dw} {o:Oper} {fr yg fD:aw}
theorem Sil.ctl (h:∀w,bI P η (G fr cs) w=.go (G yg cs) w #[]) (n:Sil P yg cs fD gD):Sil P fr cs fD gD:=.step h n
theorem Sil.value (v:ac) (p:ops[i]?=ζ o) (r:aa o (az ops a.tmps)=η) (h:b.kind≠.early)
  (d:∀w,(al a.eval o).run P w=.ok (.value v) w/\(al a.eval o).events P w #[]=#[])
  (n:Sil P (b.at (a.put o.dst v) (π ops rest::k)) cs fD gD):Sil P (b.at a (π ops (i::rest)::k)) cs fD gD:=
 .step (λw=>by
  rw[aQ p r h (d w).1];unfold listed
  rw[(d w).2,bN]) n
end
noncomputable def R12:=match sT with|.seq a _=>rg a|_=>#[]
noncomputable def sT2:=match sT with|.seq _ c=>c|_=>.skip
noncomputable def R13:=match sT2 with|.seq (.seq a _) _=>rg a|_=>#[]
noncomputable def tL:=match sT2 with|.seq (.seq _ (.block _ (.loop c))) _=>c|_=>.skip
noncomputable def tE:=match sT2 with|.seq _ c=>c|_=>.skip
theorem jne:sT=.seq (.region 12 R12 θ) sT2:=rfl
theorem jhk:sT2=.seq (.seq (.region 13 R13 θ) (.block 2 (.loop tL))) tE:=rfl
noncomputable def tIn:=match tL with|.seq _ (.seq _ (.seq (.block _ c) _))=>c|_=>.skip
noncomputable def R14:=match tL with|.seq a _=>rg a|_=>#[]
noncomputable def R17:=match tL with|.seq _ (.seq _ (.seq _ a))=>rg a|_=>#[]
noncomputable def R15:=match tIn with|.seq a _=>rg a|_=>#[]
noncomputable def R16:=match tIn with|.seq _ a=>rg a|_=>#[]
noncomputable def R18:=match tE with|.seq a _=>rg a|_=>#[]
theorem jno:tL=.seq (.region 14 R14 θ) (.seq (.cond (.tmp 27) .skip (.exit 2)) (.seq (.block 3 tIn) (.region 17 R17 θ))):=rfl
theorem jh4:tIn=.seq (.region 15 R15 θ) (.region 16 R16 θ):=rfl
theorem jnm:tE=.seq (.region 18 R18 θ) .ret:=rfl
section
variable {T:eD ac} {k:fo Item} {cs:fo aw}
theorem jnt:Sil prog (bS.at ⟨T,[]⟩ (.code sT::k)) cs (bS.at ⟨T.setIfInBounds 13 (Δ ε 0 0),[]⟩ (π R13 [0,1]::.code (.block 2 (.loop tL))::.code tE::k)) cs:=by
 rw[jne];refine Sil.ctl (λw1=>aE) ?_;refine Sil.ctl (λw1=>ay) ?_;change Sil _ (bS.at ⟨T,[]⟩ (π R12 [0]::_)) _ _ _;obtain⟨o,z,h,r,y⟩:∃o,R12[0]?=ζ o/\o.op=.assign (.const (Δ ε 0 0))/\o.dst=ζ 13/\o.guard=ε:=⟨_,lc,lc,lc,lc⟩
 have p:aa o (az R12 (ai T []).tmps)=η:=by unfold aa;rw[y]
 refine Sil.value (Δ ε 0 0) z p (by decide) (λw=>?_) ?_;{have d:(ai T []).eval (.const (Δ ε 0 0))=Δ ε 0 0:=lc;generalize (ai T []).eval=e at*;unfold al;constructor;{simp[go_sem,h,d]};simp[go_sem,h,d]};rw[r];change Sil _ (bS.at ⟨T.setIfInBounds 13 (Δ ε 0 0),[]⟩ (π R12 []::_)) _ _ _;refine Sil.ctl (λw1=>aq) ?_;rw[jhk];refine Sil.ctl (λw1=>aE) ?_;refine Sil.ctl (λw1=>aE) ?_;refine Sil.ctl (λw1=>ay) ?_;exact Sil.refl _ _
theorem jew (y:T.size=42) (r:T.getD 26 ae=σ υ i) {b:iO} (D:ν ((i:gU)<4)=b):
  Sil prog (bS.at ⟨T,[]⟩ (.code tL::k)) cs (bS.at ⟨T.setIfInBounds 27 (.bool b),[]⟩ (.code (if b then .skip else .exit 2)::.code (.seq (.block 3 tIn) (.region 17 R17 θ))::k)) cs:=by
 rw[jno];refine Sil.ctl (λw1=>aE) ?_;refine Sil.ctl (λw1=>ay) ?_;change Sil _ (bS.at ⟨T,[]⟩ (π R14 [0]::_)) _ _ _;obtain⟨o,I,p,G,H⟩:∃o,R14[0]?=ζ o/\o.op=.binOp .lss 3 (.tmp 26) (.const (σ υ 4)) 3/\o.dst=ζ 27/\o.guard=ε:=⟨_,lc,lc,lc,lc⟩
 have z:aa o (az R14 (ai T []).tmps)=η:=by unfold aa;rw[H]
 refine Sil.value (.bool b) I z (by decide) (λw1=>?_) ?_;{have d:(ai T []).eval (.tmp 26)=σ υ i:=r;have h:(ai T []).eval (.const (σ υ 4))=σ υ 4:=lc;generalize (ai T []).eval=e at*;unfold al;constructor;{simp[go_sem,p,d,h,D]};simp[go_sem,p,d,h]};rw[G];change Sil _ (bS.at ⟨T.setIfInBounds 27 (.bool b),[]⟩ (π R14 []::_)) _ _ _;refine Sil.ctl (λw1=>aq) ?_;refine Sil.ctl (λw1=>aE) ?_;have E:(ai (T.setIfInBounds 27 (.bool b)) []).eval (.tmp 27)=.bool b:=xu (by rw[y];omega);exact Sil.ctl (λw1=>stepG_cond E) (Sil.refl _ _)
theorem tEnd {v:ac} (I:T.size=42) (h:T.getD 13 ae=v):
  Sil prog (bS.at ⟨T,[]⟩ (.code tE::k)) cs {bS.at ⟨((T.setIfInBounds 41 v).setIfInBounds 8 v).setIfInBounds 9 (σ υ 0),[]⟩ (.code .ret::k)with mode:=.returning} cs:=by
 rw[jnm];refine Sil.ctl (λw1=>aE) ?_;refine Sil.ctl (λw1=>ay) ?_;change Sil _ (bS.at ⟨T,[]⟩ (π R18 [0,1,2]::_)) _ _ _;obtain⟨o,V,z,S,U⟩:∃o,R18[0]?=ζ o/\o.op=.move (.tmp 13)/\o.dst=ζ 41/\o.guard=ε:=⟨_,lc,lc,lc,lc⟩
 have J:aa o (az R18 (ai T []).tmps)=η:=by unfold aa;rw[U]
 refine Sil.value v V J (by decide) (λw1=>?_) ?_;{have r:(ai T []).eval (.tmp 13)=v:=h;generalize (ai T []).eval=e at*;unfold al;constructor;{simp[go_sem,z,r]};simp[go_sem,z,r]};rw[S];change Sil _ (bS.at ⟨T.setIfInBounds 41 v,[]⟩ (π R18 [1,2]::_)) _ _ _;obtain⟨o1,yL,D,hd1,Y⟩:∃o,R18[1]?=ζ o/\o.op=.assign (.tmp 41)/\o.dst=ζ 8/\o.guard=ε:=⟨_,lc,lc,lc,lc⟩
 have E:aa o1 (az R18 (ai (T.setIfInBounds 41 v) []).tmps)=η:=by unfold aa;rw[Y]
 refine Sil.value v yL E (by decide) (λw1=>?_) ?_;{have d:(ai (T.setIfInBounds 41 v) []).eval (.tmp 41)=v:=xu (by rw[I];omega);generalize (ai (T.setIfInBounds 41 v) []).eval=e at*;unfold al;constructor;{simp[go_sem,D,d]};simp[go_sem,D,d]};rw[hd1];change Sil _ (bS.at ⟨(T.setIfInBounds 41 v).setIfInBounds 8 v,[]⟩ (π R18 [2]::_)) _ _ _;obtain⟨o2,vE,p,H,M⟩:∃o,R18[2]?=ζ o/\o.op=.assign (.const (σ υ 0))/\o.dst=ζ 9/\o.guard=ε:=⟨_,lc,lc,lc,lc⟩
 have G:aa o2 (az R18 (ai ((T.setIfInBounds 41 v).setIfInBounds 8 v) []).tmps)=η:=by unfold aa;rw[M]
 refine Sil.value (σ υ 0) vE G (by decide) (λw1=>?_) ?_;{have y:(ai ((T.setIfInBounds 41 v).setIfInBounds 8 v) []).eval (.const (σ υ 0))=σ υ 0:=lc;generalize (ai ((T.setIfInBounds 41 v).setIfInBounds 8 v) []).eval=e at*;unfold al;constructor;{simp[go_sem,p,y]};simp[go_sem,p,y]};rw[H];change Sil _ (bS.at ⟨((T.setIfInBounds 41 v).setIfInBounds 8 v).setIfInBounds 9 (σ υ 0),[]⟩ (π R18 []::_)) _ _ _;refine Sil.ctl (λw1=>aq) ?_;exact Sil.ctl (λw1=>lc) (Sil.refl _ _)
theorem jnr (Y:i<4) (E:T.size=42) (D:T.getD 26 ae=σ υ i):
  Sil prog (bS.at ⟨T,[]⟩ (π R16 []::.inBlock 3::.code (.region 17 R17 θ)::.inLoop tL::k)) cs (bS.at ⟨(T.setIfInBounds 40 (σ υ ((i+1:dw):gU))).setIfInBounds 26 (σ υ ((i+1:dw):gU)),[]⟩ (.code tL::.inLoop tL::k)) cs:=by
 refine Sil.ctl (λw1=>aq) ?_;refine Sil.ctl (λw1=>cH) ?_;refine Sil.ctl (λw1=>ay) ?_;change Sil _ (bS.at ⟨T,[]⟩ (π R17 [0,1]::_)) _ _ _;obtain⟨o,J,r,H,I⟩:∃o,R17[0]?=ζ o/\o.op=.binOp .add 3 (.tmp 26) (.const (σ υ 1)) 3/\o.dst=ζ 40/\o.guard=ε:=⟨_,lc,lc,lc,lc⟩
 have G:aa o (az R17 (ai T []).tmps)=η:=by unfold aa;rw[I]
 refine Sil.value (σ υ ((i+1:dw):gU)) J G (by decide) (λw1=>?_) ?_
 .have h:(ai T []).eval (.tmp 26)=σ υ i:=D;have p:(ai T []).eval (.const (σ υ 1))=σ υ 1:=lc;have U:IntKind.i64.wrap ((i:gU)+1)=((i+1:dw):gU):=by rw[bE];omega
  generalize (ai T []).eval=e at*;unfold al;constructor;{simp[go_sem,r,h,p,U]};simp[go_sem,r,h,p]
 rw[H];change Sil _ (bS.at ⟨T.setIfInBounds 40 (σ υ ((i+1:dw):gU)),[]⟩ (π R17 [1]::_)) _ _ _;obtain⟨S,V,y,hd1,M⟩:∃o,R17[1]?=ζ o/\o.op=.move (.tmp 40)/\o.dst=ζ 26/\o.guard=ε:=⟨_,lc,lc,lc,lc⟩
 have z:aa S (az R17 (ai (T.setIfInBounds 40 (σ υ ((i+1:dw):gU))) []).tmps)=η:=by unfold aa;rw[M]
 refine Sil.value (σ υ ((i+1:dw):gU)) V z (by decide) (λw1=>?_) ?_;{have d:(ai (T.setIfInBounds 40 (σ υ ((i+1:dw):gU))) []).eval (.tmp 40)=σ υ ((i+1:dw):gU):=xu (by rw[E];omega);generalize (ai (T.setIfInBounds 40 (σ υ ((i+1:dw):gU))) []).eval=e at*;unfold al;constructor;{simp[go_sem,y,d]};simp[go_sem,y,d]};rw[hd1];change Sil _ (bS.at ⟨(T.setIfInBounds 40 (σ υ ((i+1:dw):gU))).setIfInBounds 26 (σ υ ((i+1:dw):gU)),[]⟩ (π R17 []::_)) _ _ _;refine Sil.ctl (λw1=>aq) ?_;exact Sil.ctl (λw1=>stepG_inLoop) (Sil.refl _ _)
end
def BGo (cs:fo aw) (fr:aw) (w:ah) (SB:Blocks) (Z:aw->ah->Prop):Prop:=
 ∀(d:dw) (gs:eD ax) (sl:gI (dw×dw)) (t:dU) (q:dw->dw),gs[0]?=ζ (G fr cs)->du prog t gs q->kR SB (w.at d) gs.size t->
  ∃(fF:eD ax) (fD:aw) (w':ah) (sl':gI (dw×dw)) (t':dU) (q':dw->dw),Runs prog gs (w.at d) sl t fF w' sl' t'/\fF.size=gs.size/\Z fD w'/\fF[0]?=ζ (G fD cs)/\du prog t' fF q'/\kR SB w' fF.size t'
def TH (T:eD ac) (l:fo (dw×ac)):Prop:=T.size=42/\∀p∈l,T.getD p.1 ae=p.2
theorem TH.sub {T:eD ac} (h:TH T l) (r:∀p∈l',p∈l):TH T l':=⟨h.1,λp d=>h.2 p (r p d)⟩
theorem TH.set {T:eD ac} (h:TH T l) {d:dw} (v:ac) (y:d<42) (r:∀p∈l',p∈l/\p.1≠d):TH (T.setIfInBounds d v) ((d,v)::l'):=by refine⟨by simp[h.1],λp hp=>?_⟩;rcases aF.1 hp with rfl|hp;{exact xu (by rw[h.1];exact y)};exact(ja (bF (r p hp).2)).trans (h.2 p (r p hp).1)
section
variable {cs:fo aw} {fr yg:aw} {w:ah} {SB:Blocks} {Z:aw->ah->Prop} {k:fo Item} {T:eD ac}
theorem BGo.done (h:∀d,Z fr (w.at d)):BGo cs fr w SB Z:=λd gs sl t q p r y=>⟨gs,fr,w.at d,sl,t,q,⟨0,lc⟩,lc,h d,p,r,y⟩
theorem BGo.sil (I:Sil prog fr cs yg cs) (n:BGo cs yg w SB Z):BGo cs fr w SB Z:=λd gs sl t q p G H=>by obtain⟨kI,h,J,t1,q1,r,y,z,D,E⟩:=I.runs (SB:=SB) (sl:=sl) p G H;obtain⟨o8,iG,w2,oO,t2,q2,M,S,U,V,Y,k6⟩:=n h kI J t1 q1 z D E;exact⟨o8,iG,w2,oO,t2,q2,r.trans M,S.trans y,U,V,Y,k6⟩
theorem BGo.one (J:(G fr cs).status=.running) (D:∀d,∃yg w1 es,bI prog η (G fr cs) (w.at d)=.go (G yg cs) w1 es/\w.heap.size<=w1.heap.size/\(∀e∈es,EvZ SB w1.heap.size e)/\BGo cs yg w1 SB Z):BGo cs fr w SB Z:=λd gs sl t q S U V=>by obtain⟨N,kI,a1,p,w1,es,jD,t1,q1,Y,h,hz,og,oL,qI,_⟩:=Af (P:=prog) (SB:=SB) (sl:=sl) S J U V λd=>let⟨yg,w1,es,r,y,z,_⟩:=D d;⟨_,_,_,r,y,z⟩;obtain⟨yg,M,iZ,r,y,z,n⟩:=D p;rw[show(w.at d).at p=w.at p from lc]at h;rw[r]at h;injection h with E H I;subst E;subst H;subst I;obtain⟨o8,iG,w2,oO,t2,q2,k1,k2,k3,k4,k5,k6⟩:=n M.drawn kI jD t1 q1 og oL qI;exact⟨o8,iG,w2,oO,t2,q2,Runs.trans ⟨N,Y⟩ k1,k2.trans hz,k3,k4,k5,k6⟩
theorem BGo.val {rest:fo dw} (r:TH T l) {d:dw} (v:ac) (E:ops[i]?=ζ o) (J:o.dst=ζ d) (D:o.guard=ε) (z:d<42) (I:∀p∈l',p∈l/\p.1≠d)
  (H:∀e:bJ->ac,(∀p∈l,e (.tmp p.1)=p.2)->(∀c,e (.const c)=c)->∀w,(al e o).run prog w=.ok (.value v) w/\(al e o).events prog w #[]=#[])
  (n:∀h,TH h ((d,v)::l')->BGo cs (bS.at ⟨h,[]⟩ (π ops rest::k)) w SB Z):BGo cs (bS.at ⟨T,[]⟩ (π ops (i::rest)::k)) w SB Z:=by
 have y:aa o (az ops (ai T []).tmps)=η:=by unfold aa;rw[D]
 have ev:=H (ai T []).eval (λp G=>r.2 p G) (λ_=>lc);refine BGo.sil (Sil.value v E y (by decide) ev (.refl _ _)) ?_;rw[J];exact n _ (r.set v z I)
end
theorem Gf {B:dw} {e:dS} (h:EvF F O e) (p:∀b,F b->¬SB b) (d:∀b,F b->b<B):EvZ SB B e:=⟨LZ h p d,λ_ r=>(P7 h r).1⟩
def nC (F:Blocks) (w:ah) (v:ac) (n:dw) (xs:fo ac):Prop:=
 xs.length=n*2/\((v=Δ ε 0 0/\n=0)\/∃g cap cur,v=Δ (ζ ⟨g,0,ε⟩) n cap/\F g/\w.heap[g]?=ζ (.cells cur 74 (0,0))/\n<=cap/\cap<=aO/\cur.toList.take (n*2)=xs/\∀x∈cur.toList,∃s,x=.string s)
theorem nC.ext {v:ac} (h:nC F w v n xs) (k:∀b,F b->w1.heap[b]?=w.heap[b]?):nC F w1 v n xs:=by refine⟨h.1,h.2.imp id ?_⟩;rintro⟨g,d,cur,r,p,y,z⟩;exact⟨g,d,cur,r,p,(k g p).trans y,z⟩
structure TlS (ρ0:Rel) (w0:ah) (SB:Blocks) (n:dw) (xs:fo ac) (ov:ac) (ρ:Rel) (w:ah):Prop where
 le:ρ0.le ρ
 wr:WR XG ρ w w
 vr:VR XG.F ρ ov ov
 nb:NB w
 own:w.ownsRow w0.heap.size 74 2 ov n xs
 keep:∀b,b<w0.heap.size->w.heap[b]?=w0.heap[b]?
 size:w0.heap.size<=w.heap.size
 apart:∀b,rng ρ b->¬SB b
 os:w.os=w0.os
 output:w.output=w0.output
theorem TlS.at {ρ0:Rel} {w0:ah} {ov:ac} (h:TlS ρ0 w0 SB n xs ov ρ w) (d:dw):TlS ρ0 w0 SB n xs ov ρ (w.at d):=
 ⟨h.le,⟨h.wr.fn,h.wr.inj,h.wr.heap,λ_ _=>lc,h.wr.sh⟩,h.vr,h.nb,h.own,h.keep,h.size,h.apart,h.os,h.output⟩
theorem q7q:∃i,prog.info? 74=ζ i/\i.zero=ζ (Θ #[Γ ⟨#[]⟩,Γ ⟨#[]⟩])/\i.size=2/\i.bytes=32:=by
 have h:(prog.info? 74).map (λi=>(i.zero,i.size,i.bytes))=ζ (ζ (Θ #[Γ ⟨#[]⟩,Γ ⟨#[]⟩]),2,32):=by kernel_rfl
 obtain⟨i,r,d⟩:=Option.map_eq_some_iff.1 h;injection d with d p;injection p with p y;exact⟨i,r,d,p,y⟩
def DX (v x:ac):bJ->ac
 |.tmp 29=>v
 |.tmp 38=>x
 |.const c=>c
 |_=>ae
theorem qm1 {P:bK} {t e ty:bZ} {i:TypeInfo} (p:P.underlying t=ζ (.slice e)) (d:P.info? e=ζ i) {base:dw} {v:ac} {size:dw} (h:w.ownsRow base e size v n xs):
  (aK #[t,t] ty #[v,Δ ε 0 0]).run P w=.ok v w:=by
 rcases h.2 with⟨rfl,rfl⟩|⟨g,r,cur,rfl,z,D,y,E,G,H⟩;{simp[aK,bm p,sizeOf,typeInfo,d,bG,aR,loadCells,loadCellsFrom]};simp[aK,bm p,sizeOf,typeInfo,d,bG,aR,loadCells,loadCellsFrom,storeCells,y]
section
variable {cs:fo aw} {SB:Blocks} {Z:aw->ah->Prop} {k:fo Item} {T:eD ac} {ρ0 ρ:Rel} {w0 w:ah} {n:dw} {xs:fo ac} {ov:ac}
theorem jc4 {lv:ac} {m kk:dw} {r:fo ac} (h:TlS ρ0 w0 SB n xs ov ρ w) {Gb:Blocks} (hG:∀b,Gb b->b<w0.heap.size/\ρ0 b b) (Y:lv=.slice sa m c) (hr:nC Gb w0 lv m r) (nT:kk<=m) (Dr:∀b,SB b->b<w0.heap.size) (hn:n+kk<=1073741824)
  (hT:TH T l) (h29:(29,ov)∈l) (h38:(38,.slice sa kk c)∈l) (vG:∀p∈l',p∈l/\p.1≠39/\p.1≠13)
  (nx:∀T' rZ ρ' w',TlS ρ0 w0 SB (n+kk) (xs++r.take (kk*2)) rZ ρ' w'->TH T' ((13,rZ)::l')->BGo cs (bS.at ⟨T',[]⟩ (π R16 []::k)) w' SB Z):
  BGo cs (bS.at ⟨T,[]⟩ (π R16 [10,11]::k)) w SB Z:=by
 obtain⟨o,ho,eY,hd,hg⟩:∃o,R16[10]?=ζ o/\o.op=.call {callee:=.builtin .append,args:=#[.tmp 29,.tmp 38],argTypes:=#[47,47]}/\o.dst=ζ 39/\o.guard=ε:=⟨_,lc,lc,lc,lc⟩
 have fP:kJ XG.P XG.P' fb η o=η:=by
  have:R16[10]?.any (kJ prog prog fb η)=η:=by kernel_rfl
  rw[ho]at this;exact this
 obtain⟨i,hi,hz,U,E⟩:=q7q;have V:prog.underlying 47=ζ (.slice 74):=underlying47;have fq:aa o (az R16 (ai T []).tmps)=η:=by unfold aa;rw[hg]
 have e29:(ai T []).eval (.tmp 29)=ov:=hT.2 _ h29;have e38:(ai T []).eval (.tmp 38)=.slice sa kk c:=hT.2 _ h38;have iy:al (ai T []).eval o=al (DX ov (.slice sa kk c)) o:=by unfold al;simp only[eY,ce,bh,cN,e29,e38,DX,resolve]
 refine BGo.one lc λd=>?_;have M:=h.at d
 -- what it Ve
 have fA:∃y w',(aK #[47,47] o.type #[ov,.slice sa kk c]).run prog (w.at d)=.ok y w'/\w'.ownsRow w0.heap.size 74 2 y (n+kk) (xs++r.take (kk*2))/\(w.at d).grownBy w' ov.ownBlock:=by
  rcases hr.2 with⟨e,rfl⟩|⟨g,cap,cur,e,h1,h2,h3,h4,h5,h6⟩
  .obtain rfl:kk=0:=by omega
   rw[Y]at e;injection e with z e2 H;subst z;subst H;refine⟨ov,w.at d,qm1 V hi M.own,?_,⟨lc,lc,lc,jg _,λ_ _ _=>lc⟩⟩;simpa using M.own
  .rw[Y]at e;injection e with z e2 H;subst z;subst H;obtain⟨y,w',k1,k2,D,_⟩:=run_append_own (P:=prog) (w.at d) w0.heap.size 47 o.type 74 i (Θ #[Γ ⟨#[]⟩,Γ ⟨#[]⟩]) 2 32 V hi hz U E lc (by decide) ov n xs M.own ⟨g,0,ε⟩ kk c (r.take (kk*2))
    (by rw[aY,hr.1];omega)
    (λj u S=>by
     have iR:j<kk*2:=by have:=(aH.1 S).1;rw[aY]at this;omega
     rw[bi iR]at S;rw[<-h5,bi (by omega)]at S;have hgh:w.heap[g]?=ζ (.cells cur 74 (0,0)):=(h.keep g (hG g h1).1).trans h2;have ea:(⟨g,0,ε⟩:Addr).add j=⟨g,j,ε⟩:=by rw[bp,bw]
     rw[ea];show w.cell? ⟨g,j,ε⟩=ζ u;simp only[aG,hgh]
     simpa using S)
    (λu V=>by
     have hm:u∈cur.toList:=by have:=aV V;rw[<-h5]at this;exact aV this
     obtain⟨s,rfl⟩:=h6 u hm
     rfl)
    (by unfold aO;omega) (by omega) M.size
   exact⟨y,w',k1,k2,D⟩
 obtain⟨y,w',k1,k2,D⟩:=fA;have J:(al (DX ov (.slice sa kk c)) o).run XG.P (w.at d)=.ok (.value y) w':=by unfold al;show Sem.run prog _ _=_;simp only[eY,resolve,invoke,builtin,dF,dG,Result.andThen_ok,ce,bh,cN,DX,k1]
 have hvx:VR XG.F ρ (.slice sa kk c) (.slice sa kk c):=by rcases hr.2 with⟨e,_⟩|⟨g,cap,cur,e,h1,_⟩;{rw[Y]at e;injection e with z e2 H;subst z;exact .j6 _ _};rw[Y]at e;injection e with z e2 H;subst z;exact .slice (h.le _ _ (hG g h1).2)
 have iH:EvR XG.F fb ρ (DX ov (.slice sa kk c)) (DX ov (.slice sa kk c)):=by refine⟨λx hx=>?_,λ_=>lc⟩;unfold DX;split;{exact h.vr};{exact hvx};{exact Jm (λ_ h=>h) _ hx};exact A9
 obtain⟨ρ1,m1,m2,m3,m4,m5⟩:=PO lc zS fP iH M.wr J;have rH:∀b,rng ρ1 b->¬SB b:=λb E U=>by rcases m4.new b E with h1|h1;{exact h.apart b h1 U};have:=Dr b U;have h2:w.heap.size<=b:=h1;have:=h.size;omega
 have hst:=aQ (P:=prog) (main:=η) (b:=bS) (k:=k) (cs:=cs) (rest:=[11]) (a:=ai T []) (w:=w.at d) ho fq (by decide) (by rw[iy];exact J);have xU:TlS ρ0 w0 SB (n+kk) (xs++r.take (kk*2)) y ρ1 w':=by refine⟨ik h.le m1,m2,m3,m5 h.nb,k2,λb E=>?_,xlt h.size D.size,rH,D.os.trans h.os,D.output.trans h.output⟩;refine(D.block b (xll E h.size) λe=>?_).trans (h.keep b E);have:=(h.own.lt b e.symm).1;omega
 refine⟨_,w',_,hst,D.size,λe he=>?_,?_⟩;{have:=bP he;rw[iy]at this;exact Gf (m4.ev e this) rH m4.low}
 .rw[hd];have hTs:TH (T.setIfInBounds 39 y) ((39,y)::l'):=hT.set y (by decide) λp I=>⟨(vG p I).1,(vG p I).2.1⟩
  change BGo cs (bS.at ⟨T.setIfInBounds 39 y,[]⟩ (π R16 [11]::k)) w' SB Z;obtain⟨o1,yL,jZ,hd1,lJ⟩:∃o,R16[11]?=ζ o/\o.op=.assign (.tmp 39)/\o.dst=ζ 13/\o.guard=ε:=⟨_,lc,lc,lc,lc⟩
  refine BGo.val hTs y yL hd1 lJ (by decide) (l':=l') (λp I=>⟨.tail _ I,(vG p I).2.2⟩) (λe he hc w=>?_) λT1 OC=>nx T1 y ρ1 w' xU OC;have G:=he (39,y) (.head _);unfold al;constructor;{simp[go_sem,jZ,G]};simp[go_sem,jZ,G]
end
section
variable {cs:fo aw} {SB:Blocks} {Z:aw->ah->Prop} {k:fo Item} {T:eD ac} {w:ah} {ov lv:ac} {fs:eD ac} {most:gU}
theorem jh5 (hi:i<4) (M:fs[i]?=ζ lv) (p:TH T [(13,ov),(25,.agg fs),(26,σ υ i),(3,σ υ most)])
  (n:∀H,TH H [(15,lv),(13,ov),(25,.agg fs),(26,σ υ i),(3,σ υ most)]->BGo cs (bS.at ⟨H,[]⟩ (.code (.region 16 R16 θ)::k)) w SB Z):
  BGo cs (bS.at ⟨T,[]⟩ (.code tIn::k)) w SB Z:=by
 rw[jh4];refine BGo.sil (Sil.ctl (λw1=>aE) (Sil.ctl (λw1=>ay) (.refl _ _))) ?_;change BGo cs (bS.at ⟨T,[]⟩ (π R15 [0,1]::_)) _ _ _;obtain⟨S,D,J,Y,z⟩:∃o,R15[0]?=ζ o/\o.op=.index 112 (.tmp 25) (.tmp 26)/\o.dst=ζ 28/\o.guard=ε:=⟨_,lc,lc,lc,lc⟩
 refine BGo.val p (lv) D Y z (by decide) (l':=[(13,ov),(25,.agg fs),(26,σ υ i),(3,σ υ most)]) (by simp) (λe r hc w=>?_) λT p=>?_;{have G:=r (26,σ υ i) (by simp);have d:=r (25,.agg fs) (by simp);unfold al;constructor;{simp[go_sem,J,G,d,M,Instr.index,part];try(intro h4;omega)};simp[go_sem,J,G,d,M,Instr.index,part];try(intro h4;omega)};obtain⟨U,E,I,V,y⟩:∃o,R15[1]?=ζ o/\o.op=.assign (.tmp 28)/\o.dst=ζ 15/\o.guard=ε:=⟨_,lc,lc,lc,lc⟩
 refine BGo.val p (lv) E V y (by decide) (l':=[(13,ov),(25,.agg fs),(26,σ υ i),(3,σ υ most)]) (by simp) (λe r hc w=>?_) λT p=>?_;{have h:=r (28,lv) (by simp);unfold al;constructor;{simp[go_sem,I,h]};simp[go_sem,I,h]};refine BGo.sil (Sil.ctl (λw1=>aq) (.refl _ _)) ?_;exact n T p
theorem tCut {m d kk:dw} {h:gI Addr} {p:dw} (uq:lv=.slice sa m c) (J6:ov=.slice h d p) (h0:(d:gU)<=most) (h1:most<=9223372036854775807) (nT:(kk:gU)=if most-d<m then most-d else m) (hmc:m<=c)
  (y:TH T [(15,lv),(13,ov),(25,.agg fs),(26,σ υ i),(3,σ υ most)])
  (n:∀T',TH T' [(38,.slice sa kk c),(29,ov),(25,.agg fs),(26,σ υ i),(3,σ υ most)]->BGo cs (bS.at ⟨T',[]⟩ (π R16 [10,11]::k)) w SB Z):
  BGo cs (bS.at ⟨T,[]⟩ (.code (.region 16 R16 θ)::k)) w SB Z:=by
 subst uq;subst J6;have hkm:kk<=m:=by split at nT<;>omega
 have Ap:kk<=c:=by omega
 have pW:IntKind.i64.wrap (most-d)=most-d:=by rw[bE];omega
 refine BGo.sil (Sil.ctl (λw1=>ay) (.refl _ _)) ?_;change BGo cs (bS.at ⟨T,[]⟩ (π R16 [0,1,2,3,4,5,6,7,8,9,10,11]::_)) _ _ _;obtain⟨o160,jlh,Zi,Lh,Y⟩:∃o,R16[0]?=ζ o/\o.op=.move (.tmp 13)/\o.dst=ζ 29/\o.guard=ε:=⟨_,lc,lc,lc,lc⟩
 refine BGo.val y (.slice h d p) jlh Lh Y (by decide) (l':=[(15,.slice sa m c),(13,.slice h d p),(25,.agg fs),(26,σ υ i),(3,σ υ most)]) (by simp) (λe r z w=>?_) λT y=>?_;{have D:=r (13,.slice h d p) (by simp);unfold al;constructor;{simp[go_sem,Zi,D]};simp[go_sem,Zi,D]};obtain⟨o161,jli,Zh,jkp,jk2⟩:∃o,R16[1]?=ζ o/\o.op=.move (.tmp 15)/\o.dst=ζ 30/\o.guard=ε:=⟨_,lc,lc,lc,lc⟩
 refine BGo.val y (.slice sa m c) jli jkp jk2 (by decide) (l':=[(29,.slice h d p),(15,.slice sa m c),(13,.slice h d p),(25,.agg fs),(26,σ υ i),(3,σ υ most)]) (by simp) (λe r z w=>?_) λT y=>?_;{have E:=r (15,.slice sa m c) (by simp);unfold al;constructor;{simp[go_sem,Zh,E]};simp[go_sem,Zh,E]};obtain⟨o162,jlj,Zg,jkq,jk3⟩:∃o,R16[2]?=ζ o/\o.op=.move (.tmp 15)/\o.dst=ζ 31/\o.guard=ε:=⟨_,lc,lc,lc,lc⟩
 refine BGo.val y (.slice sa m c) jlj jkq jk3 (by decide) (l':=[(30,.slice sa m c),(29,.slice h d p),(15,.slice sa m c),(13,.slice h d p),(25,.agg fs),(26,σ υ i),(3,σ υ most)]) (by simp) (λe r z w=>?_) λT y=>?_;{have E:=r (15,.slice sa m c) (by simp);unfold al;constructor;{simp[go_sem,Zg,E]};simp[go_sem,Zg,E]};obtain⟨o163,jlk,Zf,jkr,jk4⟩:∃o,R16[3]?=ζ o/\o.op=.call {callee:=.builtin .len,args:=#[.tmp 31],argTypes:=#[47]}/\o.dst=ζ 32/\o.guard=ε:=⟨_,lc,lc,lc,lc⟩
 refine BGo.val y (σ υ m) jlk jkr jk4 (by decide) (l':=[(31,.slice sa m c),(30,.slice sa m c),(29,.slice h d p),(15,.slice sa m c),(13,.slice h d p),(25,.agg fs),(26,σ υ i),(3,σ υ most)]) (by simp) (λe r z w=>?_) λT y=>?_;{have H:=r (31,.slice sa m c) (by simp);unfold al;constructor;{simp[go_sem,Zf,H,cn]};simp[go_sem,Zf,H,cn]};obtain⟨o164,jll,Ze,jks,jk5⟩:∃o,R16[4]?=ζ o/\o.op=.move (.tmp 3)/\o.dst=ζ 33/\o.guard=ε:=⟨_,lc,lc,lc,lc⟩
 refine BGo.val y (σ υ most) jll jks jk5 (by decide) (l':=[(32,σ υ m),(31,.slice sa m c),(30,.slice sa m c),(29,.slice h d p),(15,.slice sa m c),(13,.slice h d p),(25,.agg fs),(26,σ υ i),(3,σ υ most)]) (by simp) (λe r z w=>?_) λT y=>?_;{have b3:=r (3,σ υ most) (by simp);unfold al;constructor;{simp[go_sem,Ze,b3]};simp[go_sem,Ze,b3]};obtain⟨o165,jlm,Zd,jkt,jk6⟩:∃o,R16[5]?=ζ o/\o.op=.move (.tmp 13)/\o.dst=ζ 34/\o.guard=ε:=⟨_,lc,lc,lc,lc⟩
 refine BGo.val y (.slice h d p) jlm jkt jk6 (by decide) (l':=[(33,σ υ most),(32,σ υ m),(31,.slice sa m c),(30,.slice sa m c),(29,.slice h d p),(15,.slice sa m c),(13,.slice h d p),(25,.agg fs),(26,σ υ i),(3,σ υ most)]) (by simp) (λe r z w=>?_) λT y=>?_;{have D:=r (13,.slice h d p) (by simp);unfold al;constructor;{simp[go_sem,Zd,D]};simp[go_sem,Zd,D]};obtain⟨o166,jln,Zc,jkv,jk7⟩:∃o,R16[6]?=ζ o/\o.op=.call {callee:=.builtin .len,args:=#[.tmp 34],argTypes:=#[47]}/\o.dst=ζ 35/\o.guard=ε:=⟨_,lc,lc,lc,lc⟩
 refine BGo.val y (σ υ d) jln jkv jk7 (by decide) (l':=[(34,.slice h d p),(33,σ υ most),(32,σ υ m),(31,.slice sa m c),(30,.slice sa m c),(29,.slice h d p),(15,.slice sa m c),(13,.slice h d p),(25,.agg fs),(26,σ υ i),(3,σ υ most)]) (by simp) (λe r z w=>?_) λT y=>?_;{have M:=r (34,.slice h d p) (by simp);unfold al;constructor;{simp[go_sem,Zc,M,cn]};simp[go_sem,Zc,M,cn]};obtain⟨o167,jlo,Zb,Lg,jk8⟩:∃o,R16[7]?=ζ o/\o.op=.binOp .sub 3 (.tmp 33) (.tmp 35) 3/\o.dst=ζ 36/\o.guard=ε:=⟨_,lc,lc,lc,lc⟩
 refine BGo.val y (σ υ (most-d)) jlo Lg jk8 (by decide) (l':=[(35,σ υ d),(34,.slice h d p),(33,σ υ most),(32,σ υ m),(31,.slice sa m c),(30,.slice sa m c),(29,.slice h d p),(15,.slice sa m c),(13,.slice h d p),(25,.agg fs),(26,σ υ i),(3,σ υ most)]) (by simp) (λe r z w=>?_) λT y=>?_;{have J:=r (33,σ υ most) (by simp);have S:=r (35,σ υ d) (by simp);unfold al;constructor;{simp[go_sem,Zb,J,S,pW]};simp[go_sem,Zb,J,S,pW]};obtain⟨o168,jlp,Za,Lf,jk9⟩:∃o,R16[8]?=ζ o/\o.op=.call {callee:=.builtin .min,args:=#[.tmp 32,.tmp 36],argTypes:=#[3,3]}/\o.dst=ζ 37/\o.guard=ε:=⟨_,lc,lc,lc,lc⟩
 refine BGo.val y (σ υ kk) jlp Lf jk9 (by decide) (l':=[(36,σ υ (most-d)),(35,σ υ d),(34,.slice h d p),(33,σ υ most),(32,σ υ m),(31,.slice sa m c),(30,.slice sa m c),(29,.slice h d p),(15,.slice sa m c),(13,.slice h d p),(25,.agg fs),(26,σ υ i),(3,σ υ most)]) (by simp) (λe r z w=>?_) λT y=>?_;{have I:=r (32,σ υ m) (by simp);have U:=r (36,σ υ (most-d)) (by simp);unfold al;constructor;{simp[go_sem,Za,I,U,dH,dI,nT]};simp[go_sem,Za,I,U,dH,dI,nT]};obtain⟨o169,jlq,Y9,jkw,jla⟩:∃o,R16[9]?=ζ o/\o.op=.slice 47 (.tmp 30) ε (ζ (.tmp 37)) ε/\o.dst=ζ 38/\o.guard=ε:=⟨_,lc,lc,lc,lc⟩
 refine BGo.val y (.slice sa kk c) jlq jkw jla (by decide) (l':=[(37,σ υ kk),(36,σ υ (most-d)),(35,σ υ d),(34,.slice h d p),(33,σ υ most),(32,σ υ m),(31,.slice sa m c),(30,.slice sa m c),(29,.slice h d p),(15,.slice sa m c),(13,.slice h d p),(25,.agg fs),(26,σ υ i),(3,σ υ most)]) (by simp) (λe r z w=>?_) λT y=>?_;{have G:=r (30,.slice sa m c) (by simp);have V:=r (37,σ υ kk) (by simp);unfold al;constructor;{simp[go_sem,Y9,G,V,Instr.sliceAt,Instr.slice,Instr.sliceBounds,Instr.sliceBound,Ap]};simp[go_sem,Y9,G,V,Instr.sliceAt,Instr.slice,Instr.sliceBounds,Instr.sliceBound,Ap]};refine n T (y.sub ?_);simp
end
def lX (most:dw) (m:dw->dw) (rows:dw->fo ac):dw->dw×fo ac
 |0=>(0,[])
 |i+1=>((lX most m rows i).1+min (m i) (most-(lX most m rows i).1),(lX most m rows i).2++(rows i).take (min (m i) (most-(lX most m rows i).1)*2))
theorem jdg (most:dw) (m:dw->dw) (rows:dw->fo ac) (i:dw):(lX most m rows i).1<=most:=by
 induction i with
 |zero=>exact xzl _
 |succ i ih=>simp only[lX];omega
theorem XM (most:dw) (m:dw->dw) (rows:dw->fo ac) {B:dw}:∀i,(∀j,j<i->m j<=B)->(lX most m rows i).1<=i*B
 |0,_=>xzl _
 |i+1,h=>by have:=XM most m rows i λj d=>h j (by omega);have:=h i (by omega);simp only[lX];rw[Nat.succ_mul];omega
section
variable {cs:fo aw} {SB:Blocks} {Z:aw->ah->Prop} {k:fo Item} {ρ0:Rel} {w0:ah} {fs:eD ac} {lv:dw->ac} {m:dw->dw} {rows:dw->fo ac} {most:dw} {Gb:Blocks}
theorem jnp (I:∀i,i<4->fs[i]?=ζ (lv i)) (hG:∀b,Gb b->b<w0.heap.size/\ρ0 b b) (Y:∀i,i<4->nC Gb w0 (lv i) (m i) (rows i)) (Dr:∀b,SB b->b<w0.heap.size) (V:∀i,i<4->m i<=268435456) (Ef:most<=9223372036854775807)
  (nx:∀U z M w',TlS ρ0 w0 SB (lX most m rows 4).1 (lX most m rows 4).2 z M w'->TH U [(13,z)]->BGo cs (bS.at ⟨U,[]⟩ (.code tE::k)) w' SB Z):
  ∀r i,i+r=4->∀T ov ρ w,TlS ρ0 w0 SB (lX most m rows i).1 (lX most m rows i).2 ov ρ w->TH T [(13,ov),(25,.agg fs),(26,σ υ i),(3,σ υ most)]->
   BGo cs (bS.at ⟨T,[]⟩ (.code tL::.inLoop tL::.inBlock 2::.code tE::k)) w SB Z:=by
 intro r;induction r with
 |zero=>
  intro i hi T ov ρ w h p;obtain rfl:i=4:=by omega
  refine BGo.sil (jew p.1 (p.2 (26,σ υ ((4:dw):gU)) (by simp)) (b:=θ) (xdf (by decide))) ?_;refine BGo.sil (Sil.ctl (λw1=>stepG_exit lc) (.refl _ _)) ?_;exact nx _ ov ρ w h ((p.set (l':=[(13,ov)]) (.bool θ) (by decide) (by simp)).sub (by simp))
 |succ r ih=>
  intro i hi T ov ρ w h p;have y:i<4:=by omega
  refine BGo.sil (jew p.1 (p.2 (26,σ υ i) (by simp)) (b:=η) (xdt (by omega))) ?_;refine BGo.sil (Sil.ctl (λw1=>dx) (Sil.ctl (λw1=>aE) (Sil.ctl (λw1=>bR) (.refl _ _)))) ?_;have S:TH (T.setIfInBounds 27 (.bool η)) [(13,ov),(25,.agg fs),(26,σ υ i),(3,σ υ most)]:=(p.set (l':=[(13,ov),(25,.agg fs),(26,σ υ i),(3,σ υ most)]) (.bool η) (by decide) (by simp)).sub (by simp);generalize T.setIfInBounds 27 (.bool η)=T1 at S|-;refine jh5 y (I i y) S λT2 OB=>?_;have hle:=jdg most m rows i;have Ol:=V i y;have E:∃oa oc,ov=.slice oa (lX most m rows i).1 oc:=by rcases h.own.2 with⟨rfl,e⟩|⟨g,H,cur,rfl,_⟩;{exact⟨ε,0,by rw[e]⟩};exact⟨_,_,lc⟩
  obtain⟨oa,oc,E⟩:=E;have D:∃sa c,lv i=.slice sa (m i) c/\m i<=c:=by rcases(Y i y).2 with⟨e,e2⟩|⟨g,H,cur,e,_,_,h1,_⟩;{exact⟨ε,0,by rw[e,e2],by omega⟩};exact⟨_,_,e,h1⟩
  obtain⟨sa,c,D,J⟩:=D;have nT:((min (m i) (most-(lX most m rows i).1):dw):gU)=if(most:gU)-((lX most m rows i).1:dw)<(m i:dw)then(most:gU)-((lX most m rows i).1:dw)else(m i:dw):=by split<;>omega
  refine tCut D E (by omega) (by omega) nT J OB λT3 Kv=>?_;have hb:=XM most m rows (B:=268435456) i λj hj=>V j (by omega);have fZ:i*268435456<=3*268435456:=cC _ (by omega);refine jc4 (kk:=min (m i) (most-(lX most m rows i).1)) (l':=[(25,.agg fs),(26,σ υ i),(3,σ υ most)]) h hG D (Y i y) (Nat.min_le_left _ _) Dr (by omega) Kv (by simp) (by simp) (by simp) λT4 z M w' h' G=>?_;refine BGo.sil (jnr y G.1 (G.2 (26,σ υ i) (by simp))) ?_;refine ih (i+1) (by omega) _ z M w' h' ?_;have e1:=G.set (l':=[(13,z),(25,.agg fs),(3,σ υ most)]) (d:=40) (σ υ ((i+1:dw):gU)) (by decide) (by simp);exact(e1.set (l':=[(13,z),(25,.agg fs),(3,σ υ most)]) (d:=26) (σ υ ((i+1:dw):gU)) (by decide) (by simp)).sub (by simp)
end
theorem Same.trans {b c:ah} (h:Same a b) (k:Same b c):Same a c:=⟨k.heap.trans h.heap,k.os.trans h.os,k.output.trans h.output⟩
theorem Same.at (w:ah) (d:dw):Same w (w.at d):=⟨lc,lc,lc⟩
theorem Same.re (w:ah) (τ:Tape):Same w (re w τ):=⟨lc,lc,lc⟩
def qg (N:Blocks) (kv:fo ac) (cs:fo aw) (fr:aw) (w:ah) (fw:fo aw) (Z:aw->ah->Prop):Prop:=
 ∀(wc:ah),Same w wc->∀(gs:eD ax) (sl:gI (dw×dw)) (t:dU) (SB:Blocks) (ρ:Rel) (q:dw->dw),Co XG fb blG SB ρ gs fr cs wc t q->(∀b,N b->¬SB b)->(∀v∈kv,VR XG.F ρ v v)->
  ∃(fF:eD ax) (fD:aw) (w':ah) (sl':gI (dw×dw)) (t':dU) (TK:Blocks) (ρ':Rel) (q':dw->dw),Runs XG.P gs wc sl t fF w' sl' t'/\Z fD w'/\Co XG fb blG TK ρ' fF fD fw w' t' q'/\(∀b,N b->¬TK b)/\∀v∈kv,VR XG.F ρ' v v
section
variable {N:Blocks} {kv:fo ac} {cs fw Dv:fo aw} {fr yg iG:aw} {w w1:ah} {Z Z':aw->ah->Prop} {b:aw} {a:Act} {k:fo Item}
theorem qg.same (h:qg N kv cs fr w fw Z) (s:Same w w1):qg N kv cs fr w1 fw Z:=λwc d=>h wc (s.trans d)
theorem qg.done (h:∀wc,Same w wc->Z fr wc):qg N kv cs fr w cs Z:=λwc y gs sl t SB ρ q r p d=>⟨gs,fr,wc,sl,t,SB,ρ,q,⟨0,lc⟩,h wc y,r,p,d⟩
theorem qg.then (h:qg N kv cs fr w fw Z) (k:∀yg w1,Z yg w1->qg N kv fw yg w1 Dv Z'):qg N kv cs fr w Dv Z':=λwc S gs sl t SB ρ q M J I=>by obtain⟨V,yg,w1,U,t1,p,ρ1,q1,r,y,z,qJ,d⟩:=h wc S gs sl t SB ρ q M J I;obtain⟨Y,iG,w2,oO,t2,uE,ρ2,q2,D,E,G,H⟩:=k yg w1 y w1 (Same.refl _) V U t1 p ρ1 q1 z qJ d;exact⟨Y,iG,w2,oO,t2,uE,ρ2,q2,r.trans D,E,G,H⟩
theorem qg.mono (h:qg N kv cs fr w fw Z) (k:∀yg w1,Z yg w1->Z' yg w1):qg N kv cs fr w fw Z':=λwc y gs sl t SB ρ q r p d=>
 let⟨kI,yg,w1,jD,t1,TJ,ρ1,q1,h1,h2,h3⟩:=h wc y gs sl t SB ρ q r p d
 ⟨kI,yg,w1,jD,t1,TJ,ρ1,q1,h1,k _ _ h2,h3⟩
abbrev FSt (ρ:Rel) (f:aw):Prop:=FR XG fb η ρ (wt f []) (wt f [])
abbrev FSb (ρ:Rel) (f:aw):Prop:=blG f.fn=θ->FSt ρ f
theorem qg.sil (I:Sil XG.P fr cs yg fw) (H:∀ρ,FSb ρ fr->(∀c∈cs,FSb ρ c)->(∀v∈kv,VR XG.F ρ v v)->FSb ρ yg/\∀c∈fw,FSb ρ c) (n:qg N kv fw yg w Dv Z):qg N kv cs fr w Dv Z:=λwc s gs sl t SB ρ q h G p=>by obtain⟨J,yS⟩:=H ρ h.fr h.cs p;obtain⟨S,d,M,t1,Y,r,h2,y⟩:=h.sil (sl:=sl) I J yS;obtain⟨U,iG,w2,V,t2,uE,ρ2,q2,z,D,E⟩:=n (wc.at d) (s.trans (Same.at wc d)) S M t1 SB ρ Y y G p;exact⟨U,iG,w2,V,t2,uE,ρ2,q2,r.trans z,D,E⟩
theorem qg.ctl {d:fo Item} (h:∀w,bI XG.P η (G fr cs) w=.go (G (wt fr d) cs) w #[]) (n:qg N kv cs (wt fr d) w fw Z):qg N kv cs fr w fw Z:=
 qg.sil (.step h (.refl _ _)) (λ_ p r _=>⟨p,r⟩) n
theorem qg.seq {x y:Code} (n:qg N kv cs (b.at a (.code x::.code y::k)) w fw Z):qg N kv cs (b.at a (.code (.seq x y)::k)) w fw Z:=qg.ctl (λ_=>aE) n
theorem qg.skip (n:qg N kv cs (b.at a k) w fw Z):qg N kv cs (b.at a (.code .skip::k)) w fw Z:=qg.ctl (λ_=>dx) n
theorem qg.cond {c:bJ} {x y:Code} {t:iO} (h:a.eval c=.bool t) (n:qg N kv cs (b.at a (.code (if t then x else y)::k)) w fw Z):qg N kv cs (b.at a (.code (.cond c x y)::k)) w fw Z:=qg.ctl (λ_=>stepG_cond h) n
theorem qg.block {id:dw} {c:Code} (n:qg N kv cs (b.at a (.code c::.inBlock id::k)) w fw Z):qg N kv cs (b.at a (.code (.block id c)::k)) w fw Z:=qg.ctl (λ_=>bR) n
theorem qg.inBlock {id:dw} (n:qg N kv cs (b.at a k) w fw Z):qg N kv cs (b.at a (.inBlock id::k)) w fw Z:=qg.ctl (λ_=>cH) n
theorem qg.loop {c:Code} (n:qg N kv cs (b.at a (.code c::.inLoop c::k)) w fw Z):qg N kv cs (b.at a (.code (.loop c)::k)) w fw Z:=qg.ctl (λ_=>stepG_loop) n
theorem qg.inLoop {c:Code} (n:qg N kv cs (b.at a (.code c::.inLoop c::k)) w fw Z):qg N kv cs (b.at a (.inLoop c::k)) w fw Z:=qg.ctl (λ_=>stepG_inLoop) n
theorem qg.exit {id:dw} {k':fo Item} (h:exitTo id k=ζ k') (n:qg N kv cs (b.at a k') w fw Z):qg N kv cs (b.at a (.code (.exit id)::k)) w fw Z:=qg.ctl (λ_=>stepG_exit h) n
theorem qg.region {id:dw} (n:qg N kv cs (b.at a (π ops (et ops.size)::k)) w fw Z):qg N kv cs (b.at a (.code (.region id ops θ)::k)) w fw Z:=qg.ctl (λ_=>ay) n
theorem qg.regionEnd (n:qg N kv cs (b.at a k) w fw Z):qg N kv cs (b.at a (π ops []::k)) w fw Z:=qg.ctl (λ_=>aq) n
theorem FSt.put {y z:fo Item} {d:gI Tmp} {v:ac} (h:FSt ρ (b.at a y)) (r:VR XG.F ρ v v):FSt ρ (b.at (a.put d v) z):=by
 have p:vw XG.F ρ a.tmps.toList a.tmps.toList:=h.tmps;cases d with
 |none=>exact⟨lc,h.same,p,.nil,h.defers,lc,h.run,h.kind,h.kind',h.round⟩
 |some d=>exact⟨lc,h.same,p.GR d r,.nil,h.defers,lc,h.run,h.kind,h.kind',h.round⟩
theorem qg.unwanted (r:ops[i]?=ζ o) (y:aa o (az ops a.tmps)=θ) (n:qg N kv cs (b.at (a.put o.dst ae) (π ops td::k)) w fw Z):qg N kv cs (b.at a (π ops (i::td)::k)) w fw Z:=
 qg.sil (.step (λ_=>stepG_unwanted r y) (.refl _ _)) (λ_ d h _=>⟨λp=>FSt.put (d p) A9,h⟩) n
theorem qg.code {c:Code} {Q:Exit->Act->ah->Prop} (p:blG b.fn=θ) (M:codeOk XG.P XG.P fb η c=η) (mr:Plain k Q) (uD:∀e a w wc,Same w wc->Q e a w->Q e a wc) (S:∀wc,Same w wc->c.wp XG.P Q a wc)
  (n:∀e d w' fD,Q e d w'->CF b k e d fD->qg N kv cs fD w' fw Z):qg N kv cs (b.at a (.code c::k)) w fw Z:=λwc s gs sl t SB ρ q V J I=>by
 obtain⟨kI,yg,w1,Y,t1,q1,ρ1,r,_,h,⟨e,d,y,z⟩,D⟩:=V.code (sl:=sl) lc zS p M mr uD λτ _=>S (re wc τ) (s.trans (Same.re wc τ));obtain⟨o8,iG,w2,oO,t2,uE,ρ2,q2,E,G,H⟩:=n e d w1 yg y z w1 (Same.refl _) kI Y t1 SB ρ1 q1 D J λv U=>(I v U).mono h;exact⟨o8,iG,w2,oO,t2,uE,ρ2,q2,r.trans E,G,H⟩
theorem qg.op {ops:eD Oper} {i:dw} {td:fo dw} {o:Oper} {Q:Act->ah->Prop} (y:blG b.fn=θ) (id:dw) (S:ops[i]?=ζ o) (p:kJ XG.P XG.P fb η (Sim.bare o)=η) (r:aa o (az ops a.tmps)=η) (uD:∀a w wc,Same w wc->Q a w->Q a wc)
  (U:∀wc,Same w wc->(Code.region id #[Sim.bare o] θ).wp XG.P (λe d w'=>e=.normal/\Q d w') a wc)
  (n:∀d w',Q d w'->qg N kv cs (b.at d (π ops td::k)) w' fw Z):qg N kv cs (b.at a (π ops (i::td)::k)) w fw Z:=λwc s gs sl t SB ρ q Y M J=>by
 obtain⟨kI,yg,w1,jD,t1,q1,ρ1,z,_,h,⟨d,D,rfl⟩,E⟩:=Y.op (sl:=sl) lc zS y S p r uD (id:=id) λτ _=>U (re wc τ) (s.trans (Same.re wc τ));obtain⟨o8,iG,w2,oO,t2,uE,ρ2,q2,G,H,I⟩:=n d w1 D w1 (Same.refl _) kI jD t1 SB ρ1 q1 E M λv V=>(J v V).mono h;exact⟨o8,iG,w2,oO,t2,uE,ρ2,q2,z.trans G,H,I⟩
def Leaves (fr:aw) (v:ac):Prop:=fr.mode=.returning/\fr.defers=[]/\fr.kind=.normal/\∃fn,XG.P.funcs[fr.fn]?=ζ fn/\∀w,(results fn fr.tmps).runT XG.P w #[]=(.ok v w,#[])
def Ret (f:aN) (R:ac->ah->Prop) (fr:aw) (w:ah):Prop:=
 fr.fn=f/\∃v,Leaves fr v/\(∀ρ,vw XG.F ρ fr.tmps.toList fr.tmps.toList->VR XG.F ρ v v)/\R v w
def AP (N:Blocks) (kv:fo ac) (f:aN) (args:eD ac) (w:ah) (R:ac->ah->Prop):Prop:= ∀cs,qg N kv cs (ao XG.P f args .normal) w cs (Ret f R)
def rW (N:Blocks) (kv:fo ac) (f:aN) (args:eD ac) (w:ah) (R:ac->ah->Prop):Prop:= ∀c cs,qg N kv (c::cs) (ao XG.P f args .normal) w cs (λfr w'=>∃v,fr=c.finish v/\R v w')
theorem rW.mono {args:eD ac} {d:ac->ah->Prop} (h:rW N kv f args w R) (k:∀v w,R v w->d v w):rW N kv f args w d:=
 λc cs=>(h c cs).mono λ_ _ ⟨v,p,r⟩=>⟨v,p,k _ _ r⟩
theorem Qo (P:bK) (f:aN) (args:eD ac):(ao P f args .normal).fn=f:=rfl
theorem FSt.enter {ρ:Rel} {f:aN} {fn:Func} {args:eD ac} (d:XG.P.funcs[f]?=ζ fn) (h:vw XG.F ρ args.toList args.toList):FSt ρ (ao XG.P f args .normal):=by show FR XG fb η ρ (wt (ao XG.P f args .normal) []) (wt (ao XG.P f args .normal) []);unfold ao;simp only[d];refine⟨lc,⟨fn,d,d⟩,?_,.nil,.nil,lc,ι lc,lc,lc,ι ⟨lc,lc⟩⟩;refine h.Ey ?_;rw[Array.toList_replicate];exact vw.replicate A9 _
theorem FSt.finish {f:aw} {v:ac} (h:FSt ρ f) (p:VR XG.F ρ v v):FSt ρ (f.finish v):=by
 have key:∀(d:eD ac) (td:fo Item),vw XG.F ρ d.toList d.toList->FSt ρ {f with tmps:=d,todo:=td}:=λd td r=>⟨lc,h.same,r,.nil,h.defers,lc,h.run,h.kind,h.kind',h.round⟩
 unfold dK;split;{refine key _ _ ?_;split;{exact h.tmps.GR _ p};exact h.tmps};{exact key _ _ h.tmps};{exact key _ _ h.tmps};{exact key _ _ h.tmps};{exact key _ _ (.cons p .nil)};exact h
theorem Frame.Nh (c:aw) (v:ac):(c.finish v).fn=c.fn:=by unfold dK;split<;>first|rfl|(split<;>rfl)
theorem Nr {fr c:aw} {v:ac} {w:ah} (h:Leaves fr v):bI XG.P η (G fr (c::cs)) w=.go (G (c.finish v) cs) w #[]:=by obtain⟨r,I,J,fn,d,p⟩:=h;rw[Ae _ _ _ _ _ r];obtain⟨y,H,M,z,D,E,S⟩:=fr;obtain rfl:z=[]:=I;obtain rfl:D=.returning:=r;obtain rfl:E=.normal:=J;have d:XG.P.funcs[y]?=ζ fn:=d;have p:(results fn H).runT XG.P w #[]=(.ok v w,#[]):=p w;unfold unwind;dsimp only;rw[d];dsimp only;rw[p];rfl
theorem AP.calls {args:eD ac} (p:blG f=θ) (y:∀v w wc,Same w wc->R v w->R v wc) (h:AP N kv f args w R):rW N kv f args w R:=λc cs=>by refine(h (c::cs)).then ?_;rintro yg w1 ⟨I,v,E,H,G⟩;exact qg.sil (.step (λw=>Nr E) (.refl _ _)) (λρ r d _=>⟨λz=>FSt.finish (d c (.head _) (by rw[<-Frame.Nh c v];exact z)) (H ρ (r (by rw[I];exact p)).tmps),λc D=>d c (.tail _ D)⟩) (qg.done λwc s=>⟨v,lc,y _ _ _ s G⟩)
theorem qg.call {fn:Func} {args:eD ac} (p:ops[i]?=ζ o) (H:aa o (az ops a.tmps)=η) (d:b.kind≠.early)
  (ev:∀w,(al a.eval o).run XG.P w=.ok (.enter f args) w/\(al a.eval o).events XG.P w #[]=#[]) (z:XG.P.funcs[f]?=ζ fn)
  (I:∀ρ,FSb ρ (b.at a (π ops (i::td)::k))->(∀v∈kv,VR XG.F ρ v v)->blG f=θ->vw XG.F ρ args.toList args.toList)
  (J:rW N kv f args w R) (n:∀v w',R v w'->qg N kv cs (b.at (a.put o.dst v) (π ops td::k)) w' fw Z):qg N kv cs (b.at a (π ops (i::td)::k)) w fw Z:=by
 have E:∀w,bI XG.P η (G (b.at a (π ops (i::td)::k)) cs) w=.go (G (ao XG.P f args .normal) (b.at a (π ops (i::td)::k)::cs)) w #[]:=λw=>by rw[dl p H d (ev w).1];unfold listed;rw[(ev w).2,bN]
 refine qg.sil (.step E (.refl _ _)) (λρ h r d=>⟨λy=>FSt.enter z (I ρ h d (by rw[<-Qo XG.P f args];exact y)),λc hc=>?_⟩) ((J _ _).then ?_);{rcases aF.1 hc with rfl|hc;{exact h};exact r c hc};rintro yg w1 ⟨v,rfl,D⟩;rw[Frame.finish_at,p];exact n v w1 D
theorem qg.ret (h:∀wc,Same w wc->Z {b.at a (.code .ret::k)with mode:=.returning} wc):qg N kv cs (b.at a (.code .ret::k)) w cs Z:=
 qg.sil (.step (λ_=>stepG_ret') (.refl _ _)) (λ_ d p _=>⟨λr=>let d:=d r;⟨lc,d.same,d.tmps,.nil,d.defers,lc,κ lc,d.kind,d.kind',d.round⟩,p⟩) (qg.done h)
end
end
end Ph
namespace Sim
open Go Go.Conc
def dg (ρ:Rel):Rel:=λa b=>a=b/\∃x,ρ x b
section
variable {F:aN->Prop} {ρ:Rel}
theorem AV {a:dw} (h:ρ a b):dg ρ b b:=⟨lc,a,h⟩
mutual
theorem VR.right:∀{v v':ac},VR F ρ v v'->VR F (dg ρ) v' v'
 |_,_,.bool b=>.bool b
 |_,_,.int k n=>.int k n
 |_,_,.string s=>.string s
 |_,_,.qX=>.qX
 |_,_,.ptr r=>.ptr (AV r)
 |_,_,.j6 n c=>.j6 n c
 |_,_,.slice r=>.slice (AV r)
 |_,_,.uf=>.uf
 |_,_,.map r=>.map (AV r)
 |_,_,.func f r=>.func f r.right
 |_,_,.yield r=>.yield (AV r)
 |_,_,.nilFunc=>.nilFunc
 |_,_,.agg r=>.agg r.right
 |_,_,.tuple r=>.tuple r.right
theorem vw.right:∀{l l':fo ac},vw F ρ l l'->vw F (dg ρ) l' l'
 |_,_,.nil=>.nil
 |_,_,.cons a b=>.cons a.right b.right
end
theorem ER.right {e e':bO} (h:ER F ρ e e'):ER F (dg ρ) e' e':=⟨h.key.right,h.val.right,lc⟩
theorem EsR.right:∀{l l':fo bO},EsR F ρ l l'->EsR F (dg ρ) l' l'
 |_,_,.nil=>.nil
 |_,_,.cons a b=>.cons a.right b.right
theorem DsR.right:∀{l l':fo Deferred},DsR ρ l l'->DsR (dg ρ) l' l'
 |_,_,.nil=>.nil
 |_,_,.cons a b=>.cons (AV a) b.right
theorem xD.right {x x':gI dw} (h:xD ρ x x'):xD (dg ρ) x' x':=by rcases h with⟨_,h⟩|⟨l,l',_,h,r⟩;{exact ι ⟨h,h⟩};exact κ ⟨l',l',h,h,AV r⟩
variable {X:Cx} {Fb:aN->iO} {wr:iO}
theorem OR.right {o o':Obj} (h:OR X ρ o o'):OR X (dg ρ) o' o':=by
 cases h with
 |cells a b=>exact .cells a.right (ι lc)
 |map a=>exact .map a.right
 |stringIter s p=>exact .stringIter s p
 |CZ a b c=>exact .CZ a b c
 |mapIter r=>exact .mapIter (AV r)
 |loop a b c d e g=>exact .loop a.right (AV b) c d e g
 |number l r=>exact .number l (AV r)
 |EK=>exact .EK
 |deferred=>exact .deferred
theorem WR.right (h:WR X ρ w w') (D:∀a,¬X.Sh a):WR X (dg ρ) w' w':=
 ⟨λd p=>d.1.symm.trans p.1,λd p=>d.1.trans p.1.symm,λ{a b} ⟨e,x,hx⟩=>by
  subst e;obtain⟨o,y,_,r,E⟩:=h.heap hx
  exact⟨y,y,r,r,E.right⟩,λ_ _=>lc,λa z=>(D a z).elim⟩
end
end Sim
namespace Ph
section
open Go Go.Conc Go.ConcN Sim
section
variable {X:Cx} {Fb:aN->iO} {wr:iO} {ρ:Rel}
theorem Wx {f f':aw} (h:FR X Fb wr ρ (wt f []) (wt f' [])):FR X Fb wr (dg ρ) (wt f' []) (wt f' []):=
 ⟨lc,let⟨g,h1,h2⟩:=h.same;⟨g,by rw[h.fn];exact h1,by rw[h.fn];exact h2⟩,h.tmps.right,.nil,h.defers.right,lc,by have:=h.run;rw[<-h.mode]at this;exact this,h.kind',h.kind',h.round.right⟩
end
theorem jhe (ρ:Rel):rng (dg ρ)=rng ρ:=by funext b;exact ky ⟨λ⟨_,_,h⟩=>h,λ⟨a,h⟩=>⟨b,lc,a,h⟩⟩
theorem YJ (ρ:Rel):own XG ρ=rng ρ:=by funext b;exact ky ⟨λ⟨a,h,_⟩=>⟨a,h⟩,λ⟨a,h⟩=>⟨a,h,λh=>h⟩⟩
theorem Co.diag (h:Co XG fb blG SB ρ gs fr cs w t q):Co XG fb blG SB (dg ρ) gs fr cs w t q:=
 ⟨h.g0,h.leavers,h.past,by rw[YJ,jhe];have:=h.foot;rwa [YJ]at this,λd=>Wx (h.fr d),λc p d=>Wx (h.cs c p d),h.wr.right λ_ h=>h,h.nb⟩
end
section
open Go.Conc Go.ConcN Go.RowKit Go.Conc.Lib Go.ConcR.Gen Go.ConcN.Gen Go Sim
open Go.ConcR (KK wgBlock WgAt stA smA rd wr mk Payload Aside2 DC0 ofEvent_cell)
structure tY (cl:dw) (db mb:dw->dw) (es:dw->eD bO) (ck:dw->dw) (w:ah):Prop where
 d:∀i,i<4->w.cell? ⟨cl,1+i*3+1,ε⟩=ζ (ξ (ζ ⟨db i,0,ε⟩))
 b:∀i,i<4->w.heap[db i]?=ζ (ω #[.map (ζ (mb i))] 142 (0,0))
 m:∀i,i<4->w.heap[mb i]?=ζ (.map (es i) (ck i))
section
variable {cl:dw} {db mb:dw->dw} {es:dw->eD bO} {ck:dw->dw} {w w1:ah}
theorem tY.to (h:tY cl db mb es ck w) (r:w1.heap[cl]?=w.heap[cl]?) (kd:∀i,i<4->w1.heap[db i]?=w.heap[db i]?) (y:∀i,i<4->w1.heap[mb i]?=w.heap[mb i]?):tY cl db mb es ck w1:=
 ⟨λi p=>(yH (a:=⟨cl,1+i*3+1,ε⟩) r).trans (h.d i p),λi p=>(kd i p).trans (h.b i p),λi p=>(y i p).trans (h.m i p)⟩
theorem tY.ltc (h:tY cl db mb es ck w):cl<w.heap.size:=by
 have:=h.d 0 (by decide);unfold aG at this;cases e:w.heap[cl]? with
 |none=>simp[e]at this
 |some o=>exact(j5 e).1
theorem tY.ltd (h:tY cl db mb es ck w) (i:dw) (d:i<4):db i<w.heap.size:=(j5 (h.b i d)).1
theorem tY.ltm (h:tY cl db mb es ck w) (i:dw) (d:i<4):mb i<w.heap.size:=(j5 (h.m i d)).1
theorem tY.old (h:tY cl db mb es ck w) (k:∀b,b<w.heap.size->w1.heap[b]?=w.heap[b]?):tY cl db mb es ck w1:=
 h.to (k _ h.ltc) (λi d=>k _ (h.ltd i d)) (λi d=>k _ (h.ltm i d))
variable {s t:bn} {m:dw->dw} {rows:dw->fo ac} {cb ab tb C Wg:dw} {F:Blocks}
structure FxS (cl:dw) (db mb:dw->dw) (es:dw->eD bO) (ck:dw->dw) (cb ab tb:dw) (s t:bn) (F:Blocks) (w:ah):Prop where
 clu:tY cl db mb es ck w
 c:w.cell? ⟨cb,0,ε⟩=ζ (ξ (ζ ⟨cl,0,ε⟩))
 f:w.cell? ⟨ab,0,ε⟩=ζ (.string s)
 t:w.cell? ⟨tb,0,ε⟩=ζ (.string t)
 Fc:F cb
 Ff:F ab
 Ft:F tb
 Fl:F cl
 Fd:∀i,i<4->F (db i)
 Fm:∀i,i<4->F (mb i)
theorem FxS.ext (h:FxS cl db mb es ck cb ab tb s t F w) (e:Ext F w w1):FxS cl db mb es ck cb ab tb s t F w1:=
 ⟨h.clu.to (e.keep _ h.Fl) (λi d=>e.keep _ (h.Fd i d)) (λi d=>e.keep _ (h.Fm i d)),(yH (a:=⟨cb,0,ε⟩) (e.keep _ h.Fc)).trans h.c,(yH (a:=⟨ab,0,ε⟩) (e.keep _ h.Ff)).trans h.f,(yH (a:=⟨tb,0,ε⟩) (e.keep _ h.Ft)).trans h.t,h.Fc,h.Ff,h.Ft,h.Fl,h.Fd,h.Fm⟩
theorem FxS.sub {F':Blocks} (h:FxS cl db mb es ck cb ab tb s t F w) (k:∀b,F b->F' b):FxS cl db mb es ck cb ab tb s t F' w:=⟨h.clu,h.c,h.f,h.t,k _ h.Fc,k _ h.Ff,k _ h.Ft,k _ h.Fl,λi d=>k _ (h.Fd i d),λi d=>k _ (h.Fm i d)⟩
theorem ZA {d:aN->Prop} {ρ:Rel}:∀{l l':fo ac},vw d ρ l l'->(∀x∈l,∃s,x=.string s)->l'=l
 |_,_,.nil,_=>rfl
 |_,_,.cons a b,h=>by obtain⟨s,rfl⟩:=h _ (.head _);cases a;rw[ZA b λx p=>h x (.tail _ p)]
theorem jcw {E:dw->Prop} {v v':ac} {w:ah} (h:nC (λ_=>True) w v n xs) (y:VR (λf=>fbP f=η) ρ v v') (M:WN (XW E) ρ w w'):nC (rng ρ) w' v' n xs:=by
 refine⟨h.1,?_⟩;rcases h.2 with⟨rfl,e⟩|⟨g,p,cur,rfl,_,G,H,I,J,r⟩;{cases y;exact ι ⟨lc,e⟩}
 .cases y with
  | @slice b b' o sp n c hr=>
   obtain⟨τ,_,k⟩:=M;obtain⟨Y,o2,d,S,U⟩:=k.heap hr;have d:w.heap[g]?=ζ Y:=d;rw[G]at d;cases d;cases U with
   | @cells c c' e z z' hc hz=>
    have V:c'=cur:=by have:=ZA hc r;exact dy this
    subst V;have D:z'=(0,0):=hz.elim id id;subst D;exact κ ⟨b',p,c',lc,⟨_,hr⟩,S,H,I,J,r⟩
theorem qyf (H:C≠Wg) (U:∀i,i<4->∀(F:aN->Prop) ρ,EsR F ρ (es i).toList (es i).toList)
  (V:∀i,i<4->∀I,I.heap[db i]?=ζ (ω #[.map (ζ (mb i))] 142 (0,1))->I.heap[mb i]?=ζ (.map (es i) (ck i))->aL prog 56 #[ξ (ζ ⟨db i,0,ε⟩),Γ s,Γ t] I fun|.returned v,w'=>nC (λ_=>True) w' v (m i) (rows i)|_,_=>jb)
  (i:dw) (r:i<4) (F:Blocks) (w:ah) (kb:dw) (p:FxS cl db mb es ck cb ab tb s t F w) (hF:FOk F (λ_=>jb) w) (S:F kb) (M:w.cell? ⟨kb,0,ε⟩=ζ (σ υ i)):
  Script prog link.tWg Wg C 4 (λi F v w=>nC F w v (m i) (rows i)) i F (born prog (AY Wg cb kb ab tb C)) w:=by
 refine jdk (jd:=λi F v w=>nC F w v (m i) (rows i)) (cl:=cl) (dp:=ξ (ζ ⟨db i,0,ε⟩)) (s:=.string s) (t:=.string t) r H (λF v w w1 h e=>h.ext e.keep) (λF v w h=>?_) ⟨M,p.c,p.f,p.t,p.clu.d i r,S,p.Fc,p.Ff,p.Ft,p.Fl⟩ hF λc cs w1 e=>?_;{rcases h.2 with⟨rfl,_⟩|⟨g,z,cur,rfl,_⟩;{exact⟨ε,0,0,lc⟩};exact⟨_,_,_,lc⟩}
 .have D:=p.ext e;have J:db i≠mb i:=λe=>by have y:=D.clu.b i r;rw[e,D.clu.m i r]at y;cases y
  exact q7r (R:=λv w=>nC (λ_=>True) w v (m i) (rows i)) (jd:=λF v w=>nC F w v (m i) (rows i)) (hF.ext e) (p.Fd i r) (p.Fm i r) J (D.clu.b i r) (D.clu.m i r) (U i r) (V i r) (λv w τ h=>h.ext λ_ _=>lc) (λρ v v' w w' y E G=>jcw y E G)
   (λF Y v w h k=>⟨h.1,h.2.imp id λ⟨g,z,cur,y,E,G⟩=>⟨g,z,cur,y,k g E,G⟩⟩) c cs
end
noncomputable def P0:=match uZ with|.seq a _=>a|_=>.skip
noncomputable def P1:=match uZ with|.seq _ (.seq a _)=>a|_=>.skip
noncomputable def P3:=match uZ with|.seq _ (.seq _ (.seq a _))=>a|_=>.skip
theorem Wd:uZ=.seq P0 (.seq P1 (.seq P3 (.seq (.region 4 R4 θ) CG))):=rfl
noncomputable def R5:=match CG with|.seq (.seq a _) _=>rg a|_=>#[]
theorem q2o:CG=.seq (.seq (.region 5 R5 θ) (.block 0 (.loop sL))) sR:=rfl
theorem ZO:codeOk XG.P XG.P fb η P0=η:=by kernel_rfl
theorem ZN:codeOk XG.P XG.P fb η P1=η:=by kernel_rfl
theorem okP3:codeOk XG.P XG.P fb η P3=η:=by kernel_rfl
def S0 (cl:dw) (s t:bn) (most:gU) (n:dw) (uV Vj Vi:ac):eD ac:=
 #[ξ (ζ ⟨cl,0,ε⟩),Γ s,Γ t,σ υ most,ξ (ζ ⟨n,0,ε⟩),ξ (ζ ⟨n+1,0,ε⟩),ξ (ζ ⟨n+1+1,0,ε⟩),ae,Δ ε 0 0,σ υ 0,uV,ae,ae,ae,ae,ae,Vj,Vi,ae,ae,ae,ae,ae,ae,ae,ae,ae,ae,ae,ae,ae,ae,ae,ae,ae,ae,ae,ae,ae,ae,ae,ae]
structure HE (h:eD Obj) (w w':ah):Prop where
 heap:w'.heap=h
 os:w'.os=w.os
 output:w'.output=w.output
theorem HE.same {h:eD Obj} {w2:ah} (k:HE h w w1) (s:Same w1 w2):HE h w w2:=⟨s.heap.trans k.heap,s.os.trans k.os,s.output.trans k.output⟩
def H0 (cl:dw) (s t:bn) (w:ah):eD Obj:=((w.heap.push (ω #[ξ (ζ ⟨cl,0,ε⟩)] 40)).push (ω #[Γ s] 9)).push (ω #[Γ t] 9)
def H1 (cl:dw) (s t:bn) (w:ah):eD Obj:=(H0 cl s t w).push (ω #[Δ ε 0 0,Δ ε 0 0,Δ ε 0 0,Δ ε 0 0] 112)
theorem Mr {cl:dw} {t:bn}:(H0 cl s t w).size=w.heap.size+3:=by simp[H0]
theorem q9t {cl:dw} {t:bn}:(H1 cl s t w).size=w.heap.size+4:=by simp[H1,Mr]
section
variable {cl:dw} {s t:bn} {most:gU} {w:ah} {Q:Exit->Act->ah->Prop} {uV Vj Vi:ac} {n:dw}
theorem jer (h:Q .normal ⟨S0 cl s t most w.heap.size ae ae ae,[]⟩ (((w.alloc (ω #[ξ (ζ ⟨cl,0,ε⟩)] 40)).alloc (ω #[Γ s] 9)).alloc (ω #[Γ t] 9))):
  Code.wp prog P0 Q ⟨#[ξ (ζ ⟨cl,0,ε⟩),Γ s,Γ t,σ υ most,ae,ae,ae,ae,ae,ae,ae,ae,ae,ae,ae,ae,ae,ae,ae,ae,ae,ae,ae,ae,ae,ae,ae,ae,ae,ae,ae,ae,ae,ae,ae,ae,ae,ae,ae,ae,ae,ae],[]⟩ w:=by
 unfold P0 uZ;unfold S0 at h;simp only[Tryz.f27,Option.getD];go_wp2;exact h
theorem jm2 (d:0<=most) (h:Q .normal ⟨S0 cl s t most n ae (σ υ most) (.bool θ),[]⟩ w):Code.wp prog P1 Q ⟨S0 cl s t most n ae ae ae,[]⟩ w:=by unfold P1 uZ;unfold S0 at*;simp only[Tryz.f27,Option.getD];have p:ν (most<0)=θ:=xdf (by omega);clear d;go_wp2;exact h
theorem jm3 (h:Q .normal ⟨S0 cl s t most n (ξ (ζ ⟨w.heap.size,0,ε⟩)) (σ υ most) (.bool θ),[]⟩ (w.alloc (ω #[Δ ε 0 0,Δ ε 0 0,Δ ε 0 0,Δ ε 0 0] 112))):
  Code.wp prog P3 Q ⟨S0 cl s t most n ae (σ υ most) (.bool θ),[]⟩ w:=by
 unfold P3 uZ;unfold S0 at*;simp only[Tryz.f27,Option.getD];go_wp2;exact h
variable {N:Blocks} {kv:fo ac} {cs fw:fo aw} {Z:aw->ah->Prop}
theorem q2q (y:0<=most) (J:most<=9223372036854775807)
  (G:∀w1,HE (H1 cl s t w) w w1->qg N kv cs (bS.at ⟨S0 cl s t most w.heap.size (ξ (ζ ⟨w.heap.size+3,0,ε⟩)) (σ υ most) (.bool θ),[]⟩ (π R4 [0]::[.code CG])) w1 fw Z):
  qg N kv cs (ao XG.P fS #[ξ (ζ ⟨cl,0,ε⟩),Γ s,Γ t,σ υ most] .normal) w fw Z:=by
 have z:ao XG.P fS #[ξ (ζ ⟨cl,0,ε⟩),Γ s,Γ t,σ υ most] .normal=bS.at ⟨#[ξ (ζ ⟨cl,0,ε⟩),Γ s,Γ t,σ υ most,ae,ae,ae,ae,ae,ae,ae,ae,ae,ae,ae,ae,ae,ae,ae,ae,ae,ae,ae,ae,ae,ae,ae,ae,ae,ae,ae,ae,ae,ae,ae,ae,ae,ae,ae,ae,ae,ae],[]⟩ [.code uZ]:=by show ao prog fS _ .normal=_;rw[enter_at _ func27 (show Tryz.f27.body=ζ uZ from lc)];have D:Tryz.f27.ntmps=42:=lc;rw[D];simp only[aT,da,List.length_nil,Nat.reduceAdd,Nat.reduceSub,Array.replicate_succ,Array.replicate_zero,List.push_toArray,List.append_toArray,List.nil_append,List.cons_append];rfl
 rw[z,Wd];refine qg.seq ?_;refine qg.code lc (Q:=λe a w'=>e=.normal/\a=⟨S0 cl s t most w.heap.size ae ae ae,[]⟩/\HE (H0 cl s t w) w w') ZO (by rintro e a w ⟨rfl,_⟩;trivial) (λe a w wc s h=>⟨h.1,h.2.1,h.2.2.same s⟩) (λwc d=>?_) ?_;{refine jer ⟨lc,?_,?_⟩;{rw[d.heap]};refine⟨?_,d.os,d.output⟩;show((wc.heap.push _).push _).push _=_;rw[d.heap];rfl};rintro _ _ w1 fr ⟨rfl,rfl,H⟩ rfl;refine qg.seq ?_;refine qg.code lc (Q:=λe a w'=>e=.normal/\a=⟨S0 cl s t most w.heap.size ae (σ υ most) (.bool θ),[]⟩/\HE (H0 cl s t w) w w') ZN (by rintro e a w ⟨rfl,_⟩;trivial) (λe a w wc s h=>⟨h.1,h.2.1,h.2.2.same s⟩) (λwc d=>?_) ?_;{exact jm2 y ⟨lc,lc,H.same d⟩};rintro _ _ M fr ⟨rfl,rfl,p⟩ rfl;refine qg.seq ?_;refine qg.code lc (Q:=λe a w'=>e=.normal/\a=⟨S0 cl s t most w.heap.size (ξ (ζ ⟨w.heap.size+3,0,ε⟩)) (σ υ most) (.bool θ),[]⟩/\HE (H1 cl s t w) w w') okP3 (by rintro e a w ⟨rfl,_⟩;trivial) (λe a w wc s h=>⟨h.1,h.2.1,h.2.2.same s⟩) (λwc d=>?_) ?_
 .have E:wc.heap.size=w.heap.size+3:=by rw[d.heap,p.heap,Mr]
  refine jm3 ⟨lc,?_,?_⟩;{rw[E]};refine⟨?_,d.os.trans p.os,d.output.trans p.output⟩;show wc.heap.push _=_;rw[d.heap,p.heap];rfl
 rintro _ _ I fr ⟨rfl,rfl,r⟩ rfl;refine qg.seq ?_;refine qg.region ?_;exact G I r
end
theorem Qb {F:aN->Prop} {ρ:Rel}:∀{l:fo ac},(∀x∈l,VR F ρ x x)->vw F ρ l l
 |[],_=>.nil
 |_::_,h=>.cons (h _ (.head _)) (Qb λx d=>h x (.tail _ d))
theorem jkf {B C:dw} (p:¬SB C) (d:C<B):EvZ SB B ⟨.cell ⟨C,i,ε⟩,θ,θ⟩:=
 Gf (F:=λb=>b=C) (O:=λ_=>jb) ⟨lc,lc,λh=>by cases h⟩ (λb h=>by rw[h];exact p) (λb h=>by rw[h];exact d)
section
variable {SB:Blocks} {Z:aw->ah->Prop} {k:fo Item} {cs:fo aw} {ρ0:Rel} {w0:ah} {lv:dw->ac} {m:dw->dw} {rows:dw->fo ac} {most:dw} {Gb:Blocks} {C:dw} {T:eD ac}
theorem tAll (E:T.getD 3 ae=σ υ most) (UO:T.getD 10 ae=ξ (ζ ⟨C,0,ε⟩)) (fC:T.size=42) (r:∀i,i<4->w0.cell? ⟨C,i,ε⟩=ζ (lv i)) (hC:C<w0.heap.size) (H:¬SB C)
  (hw:WR XG ρ0 w0 w0) (mD:NB w0) (rH:∀b,rng ρ0 b->¬SB b)
  (hG:∀b,Gb b->b<w0.heap.size/\ρ0 b b) (hr:∀i,i<4->nC Gb w0 (lv i) (m i) (rows i)) (Dr:∀b,SB b->b<w0.heap.size) (hm:∀i,i<4->m i<=268435456) (Ef:most<=9223372036854775807)
  (hZ:∀y z I w',TlS ρ0 w0 SB (lX most m rows 4).1 (lX most m rows 4).2 z I w'->y.size=42->y.getD 8 ae=z->y.getD 9 ae=σ υ 0->∀d,Z {bS.at ⟨y,[]⟩ (.code .ret::k)with mode:=.returning} (w'.at d)):
  BGo cs (bS.at ⟨T,[]⟩ (.code sT::k)) w0 SB Z:=by
 refine BGo.sil jnt ?_;have G:TH (T.setIfInBounds 13 (Δ ε 0 0)) [(13,Δ ε 0 0),(10,ξ (ζ ⟨C,0,ε⟩)),(3,σ υ most)]:=
  TH.set (l:=[(10,ξ (ζ ⟨C,0,ε⟩)),(3,σ υ most)]) ⟨fC,λp hp=>by
   rcases aF.1 hp with rfl|hp;{exact UO}
   .rcases aF.1 hp with rfl|hp;{exact E}
    .cases hp⟩ _ (by decide) (by simp)
 generalize T.setIfInBounds 13 (Δ ε 0 0)=h at G|-;obtain⟨o,ho,U,hd,hg⟩:∃o,R13[0]?=ζ o/\o.op=.load 112 (.tmp 10)/\o.dst=ζ 25/\o.guard=ε:=⟨_,lc,lc,lc,lc⟩
 have fq:aa o (az R13 (ai h []).tmps)=η:=by unfold aa;rw[hg]
 have J:(ai h []).eval (.tmp 10)=ξ (ζ ⟨C,0,ε⟩):=G.2 (10,ξ (ζ ⟨C,0,ε⟩)) (by simp);have ev:∀d,(al (ai h []).eval o).run prog (w0.at d)=.ok (.value (Θ #[lv 0,lv 1,lv 2,lv 3])) (w0.at d)/\(al (ai h []).eval o).events prog (w0.at d) #[]=#[⟨.cell ⟨C,0,ε⟩,θ,θ⟩,⟨.cell ⟨C,1,ε⟩,θ,θ⟩,⟨.cell ⟨C,2,ε⟩,θ,θ⟩,⟨.cell ⟨C,3,ε⟩,θ,θ⟩]:=λd=>by have V:(w0.at d).cell? ⟨C,0,ε⟩=ζ (lv 0):=r 0 (by decide);have Y:(w0.at d).cell? ⟨C,1,ε⟩=ζ (lv 1):=r 1 (by decide);have h2:(w0.at d).cell? ⟨C,2,ε⟩=ζ (lv 2):=r 2 (by decide);have h3:(w0.at d).cell? ⟨C,3,ε⟩=ζ (lv 3):=r 3 (by decide);generalize (ai h []).eval=e at*;generalize w0.at d=w at*;unfold al;constructor;{simp[go_sem,U,J,V,Y,h2,h3]};simp[go_sem,U,J,V,Y,h2,h3]
 refine BGo.one lc λd=>⟨_,w0.at d,_,aQ ho fq (by decide) (ev d).1,jg _,λe he=>?_,?_⟩
 .have:=bP he;rw[(ev d).2]at this;simp at this;rcases this with rfl|rfl|rfl|rfl<;>exact jkf H hC
 rw[hd];have M:TH (h.setIfInBounds 25 (Θ #[lv 0,lv 1,lv 2,lv 3])) [(25,Θ #[lv 0,lv 1,lv 2,lv 3]),(13,Δ ε 0 0),(3,σ υ most)]:=G.set _ (by decide) (by simp);change BGo cs (bS.at ⟨h.setIfInBounds 25 (Θ #[lv 0,lv 1,lv 2,lv 3]),[]⟩ (π R13 [1]::_)) _ _ _;generalize h.setIfInBounds 25 (Θ #[lv 0,lv 1,lv 2,lv 3])=T2 at M|-;obtain⟨o1,yL,jZ,hd1,lJ⟩:∃o,R13[1]?=ζ o/\o.op=.move (.const (σ υ 0))/\o.dst=ζ 26/\o.guard=ε:=⟨_,lc,lc,lc,lc⟩
 refine BGo.val M (σ υ ((0:dw):gU)) yL hd1 lJ (by decide) (l':=[(25,Θ #[lv 0,lv 1,lv 2,lv 3]),(13,Δ ε 0 0),(3,σ υ most)]) (by simp) (λe he r w=>?_) λT3 E=>?_;{have S:=r (σ υ 0);unfold al;constructor;{simp[go_sem,jZ,S]};simp[go_sem,jZ,S]}
 refine BGo.sil (Sil.ctl (λw1=>aq) (Sil.ctl (λw1=>bR) (Sil.ctl (λw1=>stepG_loop) (.refl _ _)))) ?_;have ES:TlS ρ0 w0 SB (lX most m rows 0).1 (lX most m rows 0).2 (Δ ε 0 0) ρ0 (w0.at d):=
  TlS.at ⟨Rel.le_refl ρ0,hw,.j6 _ _,mD,bV _ _ _ _,λ_ _=>lc,jg _,rH,lc,lc⟩ d
 refine jnp (fs:=#[lv 0,lv 1,lv 2,lv 3]) (lv:=lv) (λi hi=>?_) hG hr Dr hm Ef (λy z I w' h' D=>?_) 4 0 lc T3 _ ρ0 _ ES (E.sub (by simp))
 .match i,hi with
  |0,_=>rfl
  |1,_=>rfl
  |2,_=>rfl
  |3,_=>rfl
 .refine BGo.sil (tEnd D.1 (D.2 (13,z) (by simp))) (BGo.done λd=>?_);refine hZ _ z I w' h' (by simp[D.1]) ?_ ?_ d;{rw[ja (by decide)];exact xu (by simp[D.1])};exact xu (by simp[D.1])
end
theorem Wi {T:eD ac}:(results Tryz.f27 T).runT prog w #[]=(.ok (ο #[T.getD 8 ae,T.getD 9 ae]) w,#[]):=by have e:Tryz.f27.results=#[.tmp 8,.tmp 9]:=rfl;simp[results,e,go_sem]
section
variable {N:Blocks} {kv:fo ac} {cl:dw} {db mb:dw->dw} {es:dw->eD bO} {ck:dw->dw} {s t:bn} {m:dw->dw} {rows:dw->fo ac} {w:ah} {most:dw}
theorem Jc {d:aN->Prop} {T:eD ac} {o:dw} (h:vw d ρ T.toList T.toList) (e:T.getD j ae=ξ (ζ ⟨b,o,ε⟩)):ρ b b:=by
 have:=vw.Eh h j;rw[e]at this;cases this with
 |ptr h=>exact h
theorem qyg (Oa:tY cl db mb es ck w) (kH:∀i,i<4->∀(F:aN->Prop) ρ,EsR F ρ (es i).toList (es i).toList)
  (zI:∀i,i<4->∀wl,wl.heap[db i]?=ζ (ω #[.map (ζ (mb i))] 142 (0,1))->wl.heap[mb i]?=ζ (.map (es i) (ck i))->aL prog 56 #[ξ (ζ ⟨db i,0,ε⟩),Γ s,Γ t] wl fun|.returned v,w'=>nC (λ_=>True) w' v (m i) (rows i)|_,_=>jb)
  (hm:∀i,i<4->m i<=268435456) (Ef:most<=9223372036854775807) (hN:∀b,N b->b<w.heap.size):
  rW N kv fS #[ξ (ζ ⟨cl,0,ε⟩),Γ s,Γ t,σ υ most] w λv w'=>
   ∃ov,v=ο #[ov,σ υ 0]/\w'.ownsRow w.heap.size 74 2 ov (lX most m rows 4).1 (lX most m rows 4).2/\(∀b,b<w.heap.size->w'.heap[b]?=w.heap[b]?)/\w.heap.size<=w'.heap.size/\w'.os=w.os/\w'.output=w.output:=by
 intro c cs;refine q2q (most:=(most:gU)) (by omega) (by omega) λw3 EQ=>?_;intro wc hs gs sl t0 SB ρ' q UK hNS hK0;have y:=UK.diag;have hK:∀v∈kv,VR XG.F (dg ρ') v v:=λv hv=>(hK0 v hv).right;have hdg:∀a b,dg ρ' a b->a=b:=λa b h=>h.1;generalize dg ρ'=ρ at y hdg hK;have G5:wc.heap=H1 cl s t w:=hs.heap.trans EQ.heap;have Sj:wc.heap.size=w.heap.size+4:=by rw[G5,q9t]
 have old:∀b,b<w.heap.size->wc.heap[b]?=w.heap[b]?:=λb hb=>by rw[G5];unfold H1 H0;rw[am,gF (by simp;omega),am,gF (by simp;omega),am,gF (by simp;omega),am,gF (by omega)]
 have NZ:tY cl db mb es ck wc:=Oa.old old;have qH:wc.heap[w.heap.size]?=ζ (ω #[ξ (ζ ⟨cl,0,ε⟩)] 40):=by rw[G5];unfold H1 H0;rw[am,gF (by simp;omega),am,gF (by simp;omega),am,gF (by simp),am,gJ lc]
 have S:wc.heap[w.heap.size+1]?=ζ (ω #[Γ s] 9):=by rw[G5];unfold H1 H0;rw[am,gF (by simp),am,gF (by simp),am,gJ (by simp)]
 have yJ:wc.heap[w.heap.size+1+1]?=ζ (ω #[Γ t] 9):=by rw[G5];unfold H1 H0;rw[am,gF (by simp),am,gJ (by simp)]
 have hCb:wc.heap[w.heap.size+3]?=ζ (ω #[Δ ε 0 0,Δ ε 0 0,Δ ε 0 0,Δ ε 0 0] 112):=by rw[G5];unfold H1;rw[am,gJ (by rw[Mr])]
 -- what is reached
 have tm:vw XG.F ρ (S0 cl s t most w.heap.size (ξ (ζ ⟨w.heap.size+3,0,ε⟩)) (σ υ most) (.bool θ)).toList (S0 cl s t most w.heap.size (ξ (ζ ⟨w.heap.size+3,0,ε⟩)) (σ υ most) (.bool θ)).toList:=(y.fr lc).tmps;have Vq:ρ cl cl:=Jc (j:=0) tm lc;have rcb:ρ w.heap.size w.heap.size:=Jc (j:=4) tm lc;have rab:ρ (w.heap.size+1) (w.heap.size+1):=Jc (j:=5) tm lc;have rtb:ρ (w.heap.size+1+1) (w.heap.size+1+1):=Jc (j:=6) tm lc;have rC:ρ (w.heap.size+3) (w.heap.size+3):=Jc (j:=10) tm lc;have Vp:∀i,i<4->ρ (db i) (db i):=λi p=>by obtain⟨v',H,h2⟩:=y.wr.cell (a:=⟨cl,1+i*3+1,ε⟩) (a':=⟨cl,1+i*3+1,ε⟩) ⟨Vq,lc,lc⟩ (NZ.d i p);rw[NZ.d i p]at H;cases H;cases h2 with|ptr h=>exact h
 have rmb:∀i,i<4->ρ (mb i) (mb i):=λi p=>by
  have iI:wc.cell? ⟨db i,0,ε⟩=ζ (.map (ζ (mb i))):=by simp[aG,NZ.b i p]
  obtain⟨v',H,h2⟩:=y.wr.cell (a:=⟨db i,0,ε⟩) (a':=⟨db i,0,ε⟩) ⟨Vp i p,lc,lc⟩ iI;rw[iI]at H;cases H;cases h2 with|map h=>exact h
 have GQ:∀b,rng ρ b->b<wc.heap.size:=λb ⟨a,h⟩=>(y.wr.bound h).2
 -- the group
 obtain⟨kI,d1,jD,t1,q1,H,z1,g1,L1,p1,hWg,qN⟩:=qxg (SB:=SB) (sl:=sl) y.g0 y.leavers y.past;rw[Sj]at hWg qN
 -- to the Vf head
 let Y:eD ac:=(S0 cl s t most w.heap.size (ξ (ζ ⟨w.heap.size+3,0,ε⟩)) (σ υ most) (.bool θ)).setIfInBounds 11 (ξ (ζ ⟨w.heap.size+4,0,ε⟩))
 have g1:kI[0]?=ζ (G (bS.at ⟨Y,[]⟩ (π R4 []::[.code CG])) (c::cs)):=by rw[Sj]at g1;exact g1
 let J:ah:=zZ (wc.at d1)
 have NW:∀b,b<wc.heap.size->J.heap[b]?=wc.heap[b]?:=λb hb=>by show(wc.heap.push _)[b]?=_;rw[am,gF (by omega)]
 have hz4:J.heap.size=w.heap.size+5:=by show(wc.heap.push _).size=_;rw[Array.size_push,Sj]
 have hz4':(zZ (wc.at d1)).heap.size=w.heap.size+5:=hz4
 let F:Blocks:=λb=>rng ρ b/\b≠w.heap.size+3
 have U:FOk F (λ_=>jb) J:=⟨λb hb=>by have:=GQ b hb.1;omega,λ_ h=>h.elim⟩
 have eZ:=Oa.ltc;have Rm:∀{b:dw} {v:ac} {ty:bZ},b<wc.heap.size->wc.heap[b]?=ζ (ω #[v] ty)->J.cell? ⟨b,0,ε⟩=ζ v:=λ{b v ty} hb e=>by simp[aG,NW b hb,e]
 have hFx:FxS cl db mb es ck w.heap.size (w.heap.size+1) (w.heap.size+1+1) s t F J:=
  ⟨NZ.old NW,Rm (by omega) qH,Rm (by omega) S,Rm (by omega) yJ,⟨⟨_,rcb⟩,by omega⟩,⟨⟨_,rab⟩,by omega⟩,⟨⟨_,rtb⟩,by omega⟩,⟨⟨_,Vq⟩,by omega⟩,λi p=>⟨⟨_,Vp i p⟩,by have:=Oa.ltd i p;omega⟩,λi p=>⟨⟨_,rmb i p⟩,by have:=Oa.ltm i p;omega⟩⟩
 have hnW:¬F (w.heap.size+4):=λh=>by have:=GQ _ h.1;omega
 have hH:ScH (σ υ most) w.heap.size (w.heap.size+1) (w.heap.size+1+1) (w.heap.size+3) (w.heap.size+4) 0 (Y.setIfInBounds 18 (σ υ ((0:dw):gU))):=⟨lc,lc,lc,lc,lc,lc,lc,lc⟩
 have Kt:WG prog η (Scr prog link.tWg (w.heap.size+4) (w.heap.size+3) 4 (λi F v w=>nC F w v (m i) (rows i)) (KS (σ υ most) w.heap.size (w.heap.size+1) (w.heap.size+1+1) (w.heap.size+3) (w.heap.size+4) [] (c::cs)) 4) F (λ_=>jb) (G (bS.at ⟨Y,[]⟩ (π R4 []::[.code CG])) (c::cs)) J:=by
  refine WG.ctl lc U (λw1=>aq) ?_;rw[q2o];refine WG.ctl lc U (λw1=>aE) ?_;refine WG.ctl lc U (λw1=>aE) ?_;refine WG.ctl lc U (λw1=>ay) ?_;change WG _ _ _ _ _ (G (bS.at ⟨Y,[]⟩ (π R5 [0]::_)) (c::cs)) J;obtain⟨o,ho,eY,hd,hg⟩:∃o,R5[0]?=ζ o/\o.op=.move (.const (σ υ 0))/\o.dst=ζ 18/\o.guard=ε:=⟨_,lc,lc,lc,lc⟩
  have fq:aa o (az R5 (ai Y []).tmps)=η:=by unfold aa;rw[hg]
  refine WG.value (σ υ ((0:dw):gU)) U ho fq (by decide) (λw1 _=>?_) ?_;{have bc:(ai Y []).eval (.const (σ υ 0))=σ υ 0:=lc;generalize (ai Y []).eval=e at*;unfold al;constructor;{simp[go_sem,eY,bc]};simp[go_sem,eY,bc]}
  rw[hd];change WG _ _ _ _ _ (G (bS.at ⟨Y.setIfInBounds 18 (σ υ ((0:dw):gU)),[]⟩ (π R5 []::_)) (c::cs)) J;refine WG.ctl lc U (λw1=>aq) ?_;refine WG.ctl lc U (λw1=>bR) ?_;refine WG.ctl lc U (λw1=>stepG_loop) ?_;exact starter (Fx:=FxS cl db mb es ck w.heap.size (w.heap.size+1) (w.heap.size+1+1) s t) (λF w w1 h e=>h.ext e) (λF F' w h k=>h.sub k)
   (λi p F w kb hx hF hk hc=>qyf (m:=m) (rows:=rows) (by omega) kH zI i p F w kb hx hF hk hc) (λF O w T hT hF _ _=>jnf hT hF) 4 0 lc _ F (λ_=>jb) J hH U hFx hnW (by omega)
 have oh:PayAt (w.heap.size+3) 4 J:=⟨_,(NW _ (by omega)).trans hCb,lc⟩
 have F9:=y.foot;obtain⟨N3,TB,a3,w5,Lp,t3,D,FM,q3,h3,I⟩:=phase (P:=prog) (ty:=link.tWg) (Wg:=w.heap.size+4) (C:=w.heap.size+3) (n:=4) (SB:=SB) (jd:=λi F v w=>nC F w v (m i) (rows i)) (L0:=w.heap.size+3) (sl:=jD) (λi F v w w1 h e=>h.ext e.keep) (by decide) g1 L1 p1 qN Kt hWg oh
  (λb hb=>⟨by have:=GQ b hb.1;omega,by have:=GQ b hb.1;omega,hb.2,F9.apart b hb.1⟩) (λ_ h=>h.elim) (by omega) (by omega) (λb hb=>by have:=F9.low b hb;omega) (by omega) (λh=>by have:=F9.low _ h;omega) (λh=>F9.apart _ ⟨_,rC⟩ h) (by omega) (jg _) (λ_ h=>h.elim)
 obtain⟨N4,gs4,T,d4,Vn,t4,q4,h4,z4,g4,hT,L4,p4⟩:=qwk (sl:=Lp) I
 -- the tail
 let E:ah:=w5.at d4
 have Rh:∀b,b<w.heap.size+3->E.heap[b]?=wc.heap[b]?:=λb hb=>(I.kept.keep b hb).trans (NW b (by omega))
 let Gb:Blocks:=λb=>∃i n r,i<4/\(D i).val=Δ (ζ ⟨b,0,ε⟩) n r
 let ρ0:Rel:=λa b=>ρ a b\/(a=b/\Gb b)
 have hρ0:ρ.le ρ0:=λ_ _ h=>ι h;have JC:∀a b,ρ0 a b->a=b:=λa b h=>h.elim (hdg a b) (·.1);have gL:∀i,i<4->nC Gb E (D i).val (m i) (rows i):=λi p=>by have h:=(I.res i p).1;refine⟨h.1,h.2.imp id ?_⟩;rintro⟨g,r,cur,z,V,k3⟩;exact⟨g,r,cur,z,⟨i,_,_,p,z⟩,k3⟩
 have Tq:∀b,Gb b->∃cur,E.heap[b]?=ζ (.cells cur 74 (0,0))/\(∀x∈cur.toList,∃s,x=.string s)/\b<E.heap.size/\b≠w.heap.size+4/\¬SB b:=by rintro b ⟨i,n,r,p,e⟩;have h:=(I.res i p).1;rcases h.2 with⟨e2,_⟩|⟨g,Vb,cur,e2,V,k3,_,_,_,k6⟩;{rw[e]at e2;cases e2};rw[e]at e2;cases e2;have:=I.sep.wF i p b V;exact⟨cur,k3,k6,this.1,this.2.1,this.2.2.2⟩
 have iI:∀i,i<4->E.cell? ⟨w.heap.size+3,i,ε⟩=ζ (D i).val:=λi p=>(I.res i p).2;obtain⟨pc,J4,hps⟩:=I.pay;have J4:E.heap[w.heap.size+3]?=ζ (.cells pc Payload.ety):=J4;have BV:∀i,i<4->VR XG.F ρ0 (D i).val (D i).val:=λi p=>by rcases(gL i p).2 with⟨e,_⟩|⟨g,r,cur,e,z,_⟩;{rw[e];exact .j6 _ _};rw[e];exact .slice (κ ⟨lc,z⟩)
 have su:WR XG ρ0 E E:=by
  refine⟨λH h2=>(JC _ _ H).symm.trans (JC _ _ h2),λH h2=>(JC _ _ H).trans (JC _ _ h2).symm,λ{a b} S=>?_,λ_ _=>lc,λa h=>h.elim⟩;obtain rfl:=JC a b S;rcases S with S|⟨_,hb⟩
  .by_cases e:a=w.heap.size+3
   .subst e;refine⟨_,_,J4,J4,.cells (Qb λx hx=>?_) (ι lc)⟩;obtain⟨j,hj,e⟩:=List.mem_iff_getElem.1 hx;have rE:j<4:=by simpa[hps]using hj
    have:=iI j rE;simp only[aG,J4]at this;have qY:pc[j]?=ζ x:=by rw[<-e];simp
    rw[qY]at this;cases this;exact BV j rE
   .obtain⟨o,o',z,V,k3⟩:=y.wr.heap S;have La:a<w.heap.size+3:=by have:=GQ a ⟨_,S⟩;omega
    exact⟨o,o',(Rh a La).trans z,(Rh a La).trans V,k3.mono hρ0⟩
  .obtain⟨cur,z,V,_⟩:=Tq a hb;refine⟨_,_,z,z,.cells (Qb λx hx=>?_) (ι lc)⟩;obtain⟨s,rfl⟩:=V x hx;exact .string s
 have hz6:w.heap.size+5<=E.heap.size:=by have:=I.sep.lW;show _<=w5.heap.size;omega
 have Uq:NB J:=NB.push (w:=wc.at d1) (λ_ _ e=>by cases e) y.nb;have rH:∀b,rng ρ0 b->¬(SB b\/b=w.heap.size+4):=by rintro b ⟨a,S|⟨_,hb⟩⟩ hs;{rcases hs with hs|hs;{exact F9.apart b ⟨a,S⟩ hs};have:=GQ b ⟨a,S⟩;omega};obtain⟨_,_,_,_,z,V⟩:=Tq b hb;rcases hs with hs|hs;{exact V hs};exact z hs
 have Dr:∀b,(SB b\/b=w.heap.size+4)->b<E.heap.size:=by rintro b (hb|hb);{have:=F9.low b hb;omega};omega
 have UL:=tAll (SB:=λb=>SB b\/b=w.heap.size+4) (k:=[]) (cs:=c::cs) (ρ0:=ρ0) (w0:=E) (lv:=λi=>(D i).val) (m:=m) (rows:=rows) (most:=most) (Gb:=Gb) (C:=w.heap.size+3) (T:=T.setIfInBounds 24 (ο #[]))
  (Z:=λfr w7=>∃ov ρ7,TlS ρ0 E (λb=>SB b\/b=w.heap.size+4) (lX most m rows 4).1 (lX most m rows 4).2 ov ρ7 w7/\Leaves fr (ο #[ov,σ υ 0]))
  ((ja (by decide)).trans hT.t3) ((ja (by decide)).trans hT.t10) (by simp[hT.size]) iI (by omega) (λh=>rH _ ⟨_,.inl rC⟩ h) su (I.kept.nb Uq) rH (λb hb=>⟨(let⟨_,_,_,k,_⟩:=Tq b hb;k),κ ⟨lc,hb⟩⟩) gL Dr hm Ef
  (λT' rZ ρ7 w7 h7 hs7 h8 h9 d=>⟨rZ,ρ7,h7.at d,⟨lc,lc,lc,_,func27,λw=>by
   have:=Wi (w:=w) (T:=T');rw[h8,h9]at this
   exact this⟩⟩)
 obtain⟨gs7,fr7,w7,sl7,t7,q7,h7,z7,⟨ov,ρ7,M,uq⟩,g7,L7,p7⟩:=UL d4 gs4 Vn t4 q4 g4 L4 p4;have Uk:Sil prog fr7 (c::cs) (c.finish (ο #[ov,σ υ 0])) cs:=.step (λw=>Nr uq) (.refl _ _);obtain⟨gs8,d8,sl8,t8,q8,h8,z8,g8,L8,p8⟩:=Uk.runs (sl:=sl7) g7 L7 p7;have hle:ρ.le ρ7:=ik hρ0 M.le;have jkk:=M.at d8;refine⟨gs8,_,w7.at d8,sl8,t8,_,ρ7,q8,?_,⟨_,lc,ov,lc,?_,λb hb=>?_,?_⟩,⟨g8,L8,p8,⟨M.apart,λb hb=>xll (Dr b hb) M.size,λb ⟨a,h,_⟩=>⟨a,h⟩,λb ⟨a,h⟩=>(jkk.wr.bound h).2⟩,?_,λc' jW hb=>(y.cs c' (.tail _ jW) hb).mono hle,jkk.wr,M.nb⟩,λb hb hs=>hs.elim (hNS b hb) λe=>by have:=hN b hb;omega,λv hv=>(hK v hv).mono hle⟩;{exact(H.trans ⟨N3,h3⟩).trans ((show Runs prog TB w5 Lp t3 gs4 (w5.at d4) Vn t4 from⟨N4,h4⟩).trans (h7.trans h8))};{have:=M.own;refine⟨this.1,this.2.imp id ?_⟩;rintro⟨g,r,cur,z,V,k3⟩;exact⟨g,r,cur,z,by omega,k3⟩};{exact(M.keep b (by omega)).trans ((Rh b (by omega)).trans (old b hb))};{refine⟨?_,(M.os.trans I.kept.os).trans (hs.os.trans EQ.os),(M.output.trans I.kept.output).trans (hs.output.trans EQ.output)⟩;have:=M.size;show _<=w7.heap.size;omega};intro hb;exact FSt.finish ((y.cs c (.head _) (by rw[<-Frame.Nh c];exact hb)).mono hle) (.tuple (.cons M.vr (.cons (.int _ _) .nil)))
end
end
section
open Go Go.Conc Go.ConcN Sim
theorem qyl {v:ac} (h:Leaves fr v) (p:XG.P.inits.idxOf? fr.fn=ε):bI XG.P η (G fr []) w=.ended (.done v) w #[]:=by obtain⟨z,J,M,fn,d,r⟩:=h;rw[Ae _ _ _ _ _ z];obtain⟨y,I,S,D,E,H,U⟩:=fr;obtain rfl:D=[]:=J;obtain rfl:E=.returning:=z;obtain rfl:H=.normal:=M;have d:XG.P.funcs[y]?=ζ fn:=d;have p:XG.P.inits.idxOf? y=ε:=p;have r:(results fn I).runT XG.P w #[]=(.ok v w,#[]):=r w;unfold unwind;dsimp only;rw[d];dsimp only;rw[r];simp[doReturn,p,GStep.after,seen]
theorem q2b (W:ah):kR (λ_=>jb) W 1 #[]:=
 ⟨⟨0,λsaid=>by rintro⟨i,j,_,⟨a,b,d,_⟩,_⟩;simp[Trace.act?]at d,λi a d=>by simp[touchAt,Trace.act?]at d,λi g h=>by simp[Trace.g?]at h,lc,by simp⟩,by simp,λi a d=>by simp[touchAt,Trace.act?]at d,
  λi op x p=>by simp at p,by simp⟩
theorem ja5 {W:ah} {Post:ac->ah->Prop} {N:Blocks} {kv:fo ac} (h:qg N kv [] fr W [] (Ret f R)) (uy:FSb ρ fr) (I:WR XG ρ W W) (kF:∀v∈kv,VR XG.F ρ v v) (hi:XG.P.inits.idxOf? f=ε) (hp:∀v w wc,Same w wc->R v w->Post v wc):
  ∃M last o w' z,runNT XG.P (M+1) (solo (G fr []) W) #[]=(.ended o w',z)/\runN XG.P M (solo (G fr []) W)=.next last/\step XG.P last=.ended o w'/\Conc.Good XG.P Post last o w' z:=by
 have iY:Co XG fb blG (λ_=>jb) ρ #[G fr []] fr [] W #[] (λ_=>0):=
  ⟨lc,leavers_one _ _,q2b W,⟨λ_ _ h=>h,λ_ h=>h.elim,λb ⟨a,h,_⟩=>⟨a,h⟩,λb ⟨a,h⟩=>(I.bound h).2⟩,uy,(λc r=>by cases r),I,trivial⟩
 obtain⟨H,fD,w',p,z,TK,ρ',q',⟨N,E⟩,⟨vH,v,hl,hv,Y⟩,r,_,_⟩:=h W (Same.refl _) _ ε _ _ _ _ iY (λ_ _ h=>h) kF;obtain⟨B,V⟩:=r.past.past;obtain⟨y,last,o,S,J,k1,k2,k3,k4⟩:=beside_ends (P:=XG.P) (D:=λ_ _ _=>jb) (Post:=Post) (n:=0) (w:=w') (sl:=p) (λ_ _ _ h=>h.elim) r.g0 r.leavers V (λw1 oV=>by
  obtain⟨d,e⟩:=oV;subst e
  exact⟨lc,v,#[],qyl hl (by rw[vH];exact hi),by simp,hp v _ _ (Same.at w' d) Y⟩)
 have U:runNT XG.P (N+(y+1)) (solo (G fr []) W) #[]=(.ended o S,J):=runNT_trans N E k1;have e1:runN XG.P N (solo (G fr []) W)=.next (crowd H w' p):=by rw[<-runNT_fst _ _ _ #[]];exact je Prod.fst E
 refine⟨N+y,last,o,S,J,U,?_,k3,k4⟩;have:runNT XG.P (N+y) (solo (G fr []) W) #[]=runNT XG.P y (crowd H w' p) z:=runNT_trans N E lc;rw[<-runNT_fst _ _ _ #[],this,runNT_fst];exact k2
theorem qyb {P:bK} {v:ac} {a:Addr} (h:w.cell? a=ζ v) (es:eD dS):(Go.load a).runT P w es=(.ok v w,es.push ⟨.cell a,θ,θ⟩):=by unfold Go.load;simp only[dz,h];rfl
theorem Yt {P:bK} {w:ah} {a:Addr}:∀(l:fo ac) (i:dw) (d:eD ac) (es:eD dS),(∀j v,l[j]?=ζ v->w.cell? (a.add (i+j))=ζ v)->
  ∃p,(loadCellsFrom a i l.length d).runT P w es=(.ok (d++l.toArray) w,es++p)/\∀e∈p,∃j,e=⟨.cell (a.add j),θ,θ⟩
 |[],i,d,es,_=>⟨#[],by simp[loadCellsFrom,Pure.pure,dz],by simp⟩
 |v::l,i,d,es,h=>by
  obtain⟨p,D,E⟩:=Yt (P:=P) l (i+1) (d.push v) (es.push ⟨.cell (a.add i),θ,θ⟩) λj x G=>by have:=h (j+1) x (by simpa using G);rwa [show i+(j+1)=i+1+j by omega]at this
  refine⟨#[⟨.cell (a.add i),θ,θ⟩]++p,?_,λe he=>?_⟩
  .have r:=h 0 v lc;rw[Nat.add_zero]at r;show((Go.load (a.add i)).bind λv=>loadCellsFrom a (i+1) l.length (d.push v)).runT P w es=_;rw[bz,qyb r];simp only[];rw[D];have y:d.push v++l.toArray=d++(v::l).toArray:=by apply dy;simp
   have z:es.push (⟨.cell (a.add i),θ,θ⟩:dS)++p=es++(#[⟨.cell (a.add i),θ,θ⟩]++p):=by apply dy;simp
   rw[y,z]
  .rcases Array.mem_append.1 he with he|he;{simp at he;exact⟨i,he⟩};exact E e he
theorem Yg {P:bK} {a:Addr} {ty:bZ} (l:fo ac) (r:∀es,(isAgg ty).runT P w es=(.ok η w,es)) (y:∀es,(sizeOf ty).runT P w es=(.ok l.length w,es)) (z:∀j v,l[j]?=ζ v->w.cell? (a.add j)=ζ v):
  ∃d,(Instr.loadAt ty (ξ (ζ a))).runT P w #[]=(.ok (.agg l.toArray) w,d)/\∀e∈d,∃j,e=⟨.cell (a.add j),θ,θ⟩:=by
 obtain⟨d,h,p⟩:=Yt (P:=P) (w:=w) (a:=a) l 0 #[] #[] λj v D=>by rw[bw];exact z j v D
 refine⟨d,?_,p⟩;show((isAgg ty).bind λc=>if c=η then(sizeOf ty).bind λn=>(loadCellsFrom a 0 n #[]).bind λcs=>Sem.pure (.agg cs)else Go.load a).runT P w #[]=_;rw[bz,r];simp only[jC];rw[bz,y];simp only[];rw[bz,h];simp[dz]
section
variable {N:Blocks} {kv:fo ac} {cs fw:fo aw} {w:ah} {Z:aw->ah->Prop} {b:aw} {a:Act} {k:fo Item}
theorem qg.blind (gQ:blG b.fn=η) (hk:b.kind≠.early) (ho:ops[i]?=ζ o) (fP:kJ XG.P XG.P' fb η o=η) (hw:aa o (az ops a.tmps)=η)
  (iy:al a.eval o=al e o) (he:∀ρ,(∀v∈kv,VR XG.F ρ v v)->EvR XG.F fb ρ e e) (hr:∀wc,Same w wc->∃v w1,(al e o).run XG.P wc=.ok (.value v) w1/\R v w1/\wc.heap.size<=w1.heap.size)
  (n:∀v w1,R v w1->qg N (v::kv) cs (b.at (a.put o.dst v) (π ops td::k)) w1 fw Z):qg N kv cs (b.at a (π ops (i::td)::k)) w fw Z:=λwc s gs sl t SB ρ q r hN Y=>by
 have key:∀d,∃v w1,(al e o).run XG.P (wc.at d)=.ok (.value v) w1/\R v w1/\wc.heap.size<=w1.heap.size:=λd=>hr (wc.at d) (s.trans (Same.at wc d));have su:∀d,WR XG ρ (wc.at d) (wc.at d):=λd=>⟨r.wr.fn,r.wr.inj,r.wr.heap,λ_ _=>lc,r.wr.sh⟩
 have I:∀d v w1,(al e o).run XG.P (wc.at d)=.ok (.value v) w1->bI XG.P η (G (b.at a (π ops (i::td)::k)) cs) (wc.at d)=.go (G (b.at (a.put o.dst v) (π ops td::k)) cs) w1 _:=λd v w1 h=>
  aQ (P:=XG.P) (main:=η) (b:=b) (k:=k) (cs:=cs) (rest:=td) (a:=a) (w:=wc.at d) ho hw hk (by rw[iy];exact h)
 have step:∀d v w1,(al e o).run XG.P (wc.at d)=.ok (.value v) w1->wc.heap.size<=w1.heap.size->
   ∃p,ρ.le p/\WR XG p w1 w1/\VR XG.F p v v/\qC (rng ρ) (own XG ρ) (wc.at d) (rng p) (own XG p) w1 ((al e o).events XG.P (wc.at d) #[]):=λd v w1 h _=>
  let⟨p,J,S,U,y,_⟩:=PO lc zS fP (he ρ Y) (su d) h
  ⟨p,J,S,U,y⟩
 have rH:∀(d:dw) (v:ac) (w1:ah) (p:Rel) (es:eD dS),qC (rng ρ) (own XG ρ) (wc.at d) (rng p) (own XG p) w1 es->∀b,rng p b->¬SB b:=λd v w1 p es y b z hs=>by rcases y.new b z with h1|h1;{exact r.foot.apart b h1 hs};have V:wc.heap.size<=b:=h1;have:=r.foot.low b hs;omega
 obtain⟨M,kI,a1,d,w1,es,jD,t1,q1,fA,H,hz,og,oL,qI,_⟩:=Af (P:=XG.P) (SB:=SB) (sl:=sl) r.g0 lc r.leavers r.past λd=>by obtain⟨v,w1,h1,_,E⟩:=key d;obtain⟨p,J,S,U,y⟩:=step d v w1 h1 E;refine⟨_,w1,_,I d v w1 h1,E,λev iH=>?_⟩;have:=bP iH;rw[iy]at this;exact Gf (y.ev ev this) (rH d v w1 p _ y) y.low
 obtain⟨v,D,h1,V,E⟩:=key d;obtain⟨p,J,S,U,y⟩:=step d v D h1 E;rw[I d v D h1]at H;injection H with e1 e2 e3;subst e1;subst e2;obtain⟨o8,iG,w2,oO,t2,uE,ρ2,q2,k1,k2,k3,k4,k5⟩:=n v D V D (Same.refl _) kI jD t1 SB p q1
  ⟨og,oL,qI,⟨rH d v D p _ y,λb z=>xll (r.foot.low b z) E,y.own,y.low⟩,λz=>(by rw[show(b.at (a.put o.dst v) (π ops td::k)).fn=b.fn from lc,gQ]at z;cases z),λc lK z=>(r.cs c lK z).mono J,S,trivial⟩ hN
  (λx hx=>by
   rcases aF.1 hx with rfl|hx;{exact U}
   .exact(Y x hx).mono J)
 exact⟨o8,iG,w2,oO,t2,uE,ρ2,q2,Runs.trans ⟨M,fA⟩ k1,k2,k3,k4,λx hx=>k5 x (.tail _ hx)⟩
theorem qg.look {x:dw} {ty:bZ} {h r:dw} {l:fo ac} (gQ:blG b.fn=η) (hk:b.kind≠.early) (ho:ops[i]?=ζ o) (eY:o.op=.load ty (.tmp x)) (hw:aa o (az ops a.tmps)=η)
  (hx:a.eval (.tmp x)=ξ (ζ ⟨h,r,ε⟩)) (S:N h) (hA:∀w es,(isAgg ty).runT XG.P w es=(.ok η w,es)) (hS:∀w es,(sizeOf ty).runT XG.P w es=(.ok l.length w,es)) (eZ:h<w.heap.size)
  (hc:∀j v,l[j]?=ζ v->w.cell? ((⟨h,r,ε⟩:Addr).add j)=ζ v) (hv:∀ρ,VR XG.F ρ (.agg l.toArray) (.agg l.toArray))
  (n:qg N kv cs (b.at (a.put o.dst (.agg l.toArray)) (π ops td::k)) w fw Z):qg N kv cs (b.at a (π ops (i::td)::k)) w fw Z:=λwc s gs sl t SB ρ q p U hK=>by
 have I:∀d,∃y,(al a.eval o).runT XG.P (wc.at d) #[]=(.ok (.value (.agg l.toArray)) (wc.at d),y)/\∀e∈y,∃j,e=⟨.cell ((⟨h,r,ε⟩:Addr).add j),θ,θ⟩:=λd=>by
  obtain⟨y,D,J⟩:=Yg (P:=XG.P) (w:=wc.at d) (a:=⟨h,r,ε⟩) (ty:=ty) l (hA _) (hS _) λj v hj=>by have:=hc j v hj;have e:(wc.at d).cell? ((⟨h,r,ε⟩:Addr).add j)=w.cell? ((⟨h,r,ε⟩:Addr).add j):=xcb (by show wc.heap[_]?=_;rw[s.heap]);rw[e];exact this
  refine⟨y,?_,J⟩;have he:al a.eval o=(Instr.loadAt ty (ξ (ζ ⟨h,r,ε⟩))).bind λv=>Sem.pure (.value v):=by unfold al;rw[eY,<-hx];rfl
  rw[he];rw[bz,D];simp[dz]
 have H:∀d,bI XG.P η (G (b.at a (π ops (i::td)::k)) cs) (wc.at d)=.go (G (b.at (a.put o.dst (.agg l.toArray)) (π ops td::k)) cs) (wc.at d) _:=λd=>
  aQ (P:=XG.P) (main:=η) (b:=b) (k:=k) (cs:=cs) (rest:=td) (a:=a) (w:=wc.at d) ho hw hk (by
   obtain⟨y,D,_⟩:=I d
   rw[<-bk XG.P _ _ #[],D])
 obtain⟨M,kI,a1,d,w1,es,jD,t1,q1,fA,E,hz,og,oL,qI,_⟩:=Af (P:=XG.P) (SB:=SB) (sl:=sl) p.g0 lc p.leavers p.past λd=>by
  refine⟨_,_,_,H d,jg _,λev iH=>?_⟩;have:=bP iH;obtain⟨y,D,J⟩:=I d;have ee:(al a.eval o).events XG.P (wc.at d) #[]=y:=by have:=je Prod.snd D;simpa[dW]using this
  rw[ee]at this;obtain⟨j,rfl⟩:=J ev this;have V:((⟨h,r,ε⟩:Addr).add j).block=h:=by rw[bp]
  refine Gf (F:=λb=>b=h) (O:=λ_=>jb) (show EvF _ _ _ from⟨lc,V,λe=>by cases e⟩) (λb z=>by subst z;exact U _ S) (λb z=>by subst z;show _<wc.heap.size;rw[s.heap];exact eZ)
 rw[H d]at E;injection E with Y e2 e3;subst Y;subst e2;obtain⟨o8,iG,w2,oO,t2,uE,ρ2,q2,k1,k2,k3,k4,k5⟩:=n (wc.at d) (s.trans (Same.at wc d)) kI jD t1 SB ρ q1
  ⟨og,oL,qI,⟨p.foot.apart,p.foot.low,p.foot.own,p.foot.foot⟩,λz=>(by rw[show(b.at (a.put o.dst (.agg l.toArray)) (π ops td::k)).fn=b.fn from lc,gQ]at z;cases z),p.cs,⟨p.wr.fn,p.wr.inj,p.wr.heap,λ_ _=>lc,p.wr.sh⟩,trivial⟩ U hK
 exact⟨o8,iG,w2,oO,t2,uE,ρ2,q2,Runs.trans ⟨M,fA⟩ k1,k2,k3,k4,k5⟩
theorem rW.of {fn:Func} {args:eD ac} (gQ:blG f=θ) (vI:fb f=η) (vH:XG.P.funcs[f]?=ζ fn) (qM:∀tmps,∃v,∀w,(results fn tmps).runT XG.P w #[]=(.ok v w,#[]))
  (JX:∀ρ tmps v w,vw XG.F ρ tmps.toList tmps.toList->(results fn tmps).run XG.P w=.ok v w->VR XG.F ρ v v) (J:∀v w wc,Same w wc->R v w->R v wc)
  (U:∀wc,Same w wc->aL XG.P f args wc fun|.returned v,w'=>R v w'|_,_=>jb):rW N kv f args w R:=λc cs wc s gs sl t SB ρ q h hN hK=>by
 obtain⟨p,body,z,D,h3,_⟩:=Im Pm f vI;have uU:(ao XG.P f args .normal).todo=[.code body]:=by unfold ao;rw[show XG.P.funcs[f]?=ζ p from z];simp[D]
 have hf:FR XG fb η ρ (ao XG.P f args .normal) (ao XG.P f args .normal):=by have d:=h.fr gQ;refine⟨lc,d.same,d.tmps,?_,d.defers,lc,d.run,d.kind,d.kind',d.round⟩;rw[uU];exact .cons (.code h3) .nil
 have hB:Bot [ao XG.P f args .normal]:=by intro g hg;simp at hg;subst hg;unfold ao;rw[show XG.P.funcs[f]?=ζ p from z]
 have r:Inv XG fb η (ao XG.P f args .normal) [c0] wc:=⟨ρ,_,[],[],wc,lc,hf,.nil,h.wr,trivial,hB⟩
 have hm:=YA zS r (R:=R) (λv w τ V=>J v (re w τ) w ⟨lc,lc,lc⟩ V) λτ _=>U (re wc τ) (s.trans (Same.re wc τ));have Tk:∀fr cs w,Lu XG.P f R fr cs w->∀ch,fr.mode≠.panicking ch:=λfr cs w ⟨_,_,v,h,_⟩ ch e=>by rw[h.1]at e;cases e
 obtain⟨M,kI,iG,xW,w2,E,jD,t1,q1,ρ2,V,⟨iw,Y,v,⟨l1,l2,l3,fn2,l4,l5⟩,I⟩,hz,g0,hs,g1,g2,g3,g4,g5,hL,hP,hF⟩:=Yj (sl:=sl) lc zS Tk hm (up:=[]) (base:=c::cs) lc (by simp) hf .nil (WN.of h.wr) (Same.refl wc) trivial hB h.g0 h.leavers h.past h.foot;have hu:xW=[]:=by have:=je dQ iw;simp at this;exact au (by simpa using this)
 subst hu;rw[Y,vH]at l4;cases l4;obtain⟨y,ET⟩:=qM iG.tmps;have ev:y=v:=by have:=je Prod.fst (ET w2);rw[bk,l5]at this;cases this;rfl
 subst ev;have hl:Leaves iG y:=⟨l1,l2,l3,fn,by rw[Y];exact vH,ET⟩
 have iY:Co XG fb blG SB ρ2 kI iG (c::cs) E t1 q1:=⟨g0,hL,hP,hF,λ_=>LW g1,λc' jW S=>(h.cs c' jW S).mono g4,WR.self zS g3 hs E.drawn,trivial⟩
 have last:qg N kv (c::cs) iG E cs (λfr w'=>∃v,fr=c.finish v/\R v w'):=
  qg.sil (.step (λw=>Nr hl) (.refl _ _)) (λρ z D _=>⟨λS=>FSt.finish (D c (.head _) (by rw[<-Frame.Nh c y];exact S)) (JX ρ iG.tmps y w2 (z (by rw[Y];exact gQ)).tmps l5),λc U=>D c (.tail _ U)⟩) (qg.done λwc s=>⟨y,lc,J _ _ _ s (J _ _ _ hs I)⟩)
 obtain⟨TB,H,w3,Lp,t3,G,ρ3,q3,k1,k2,k3,k4,k5⟩:=last E (Same.refl _) kI jD t1 SB ρ2 q1 iY hN λx hx=>(hK x hx).mono g4;exact⟨TB,H,w3,Lp,t3,G,ρ3,q3,Runs.trans ⟨M,V⟩ k1,k2,k3,k4,k5⟩
theorem qg.val (r:blG b.fn=η) (z:b.kind≠.early) (v:ac) (D:ops[i]?=ζ o) (E:aa o (az ops a.tmps)=η)
  (p:∀w,(al a.eval o).run XG.P w=.ok (.value v) w/\(al a.eval o).events XG.P w #[]=#[])
  (n:qg N kv cs (b.at (a.put o.dst v) (π ops td::k)) w fw Z):qg N kv cs (b.at a (π ops (i::td)::k)) w fw Z:=by
 refine qg.sil (.step (λw1=>?_) (.refl _ _)) (λ_ _ y _=>⟨λd=>?_,y⟩) n;{have h:=aQ (P:=XG.P) (main:=η) (b:=b) (k:=k) (cs:=cs) (rest:=td) (a:=a) (w:=w1) D E z (p w1).1;rw[h];unfold listed;rw[(p w1).2,bN]};rw[show(b.at (a.put o.dst v) (π ops td::k)).fn=b.fn from lc,r]at d;cases d
end
end
end Ph
section
open Go.RowKit
def letter (b:kZ):iO:=ν (97<=b.toNat)&&ν (b.toNat<=122)
def jN (l:fo kZ):iO:=ν (0<l.length)&&(ν (l.length<=8)&&l.all letter)
def shd (b:dw):dw:=if b<=103 then 0 else if b<=109 then 1 else if b<=116 then 2 else 3
def q9 (l:fo kZ):dw:=shd ((l.headD 0).toNat)
theorem Yr (s:bn) (k:dw) (h:k<s.size):(s.data.toList.take (k+1)).all letter=((s.data.toList.take k).all letter&&letter s[k]):=by
 have:s.data.toList.take (k+1)=s.data.toList.take k++[s[k]]:=by rw[List.take_succ_eq_append_getElem (by simpa using h)];rfl
 rw[this,List.all_append];simp
def Sc (w:ah) (e:co) (w':ah):Prop:=e=ψ (ο #[σ υ 0,χ θ])/\aI w.heap.size w w'
def jjr (k:dw) (w:ah) (e:co) (w':ah):Prop:=e=ψ (ο #[σ υ k,χ η])/\aI w.heap.size w w'
theorem toList_nil (h:s.size=0):s.toList=[]:=by rw[aZ];apply au;simpa using h
theorem Jr (h:0<s.size):s.toList.isEmpty=θ:=by
 rw[aZ];cases e:s.data.toList with
 |nil=>
  have:s.data.toList.length=0:=by rw[e];rfl
  have d:s.data.toList.length=s.size:=by simp
  omega
 |cons a l=>rfl
theorem q69 (s:bn) (w:ah) (h:s.size=0\/8<s.size) (p:s.size<=aO):aL prog 41 #[Γ s] w (Sc w):=by
 unfold aO at p;rcases h with h|h
 .have d:s.toList=[]:=toList_nil h;have r:s.toList.isEmpty=η:=by rw[d];rfl
  go_enter func41,ntmps41;go_wp2;go_ret2;exact⟨lc,qy _ _⟩
 .have r:s.toList.isEmpty=θ:=Jr (by omega);have y:ν ((8:gU)<s.size)=η:=by simp;omega
  go_enter func41,ntmps41;go_wp2;go_ret2;exact⟨lc,qy _ _⟩
theorem XU (b:kZ):letter b=η↔97<=b.toNat/\b.toNat<=122:=by simp[letter]
theorem IC (s:bn) (w:ah) (h:jN s.data.toList=η):aL prog 41 #[Γ s] w (jjr (q9 s.data.toList) w):=by
 simp only[jN,aP,gY,dc,XU]at h;obtain⟨h0,d,r⟩:=h;have h0:0<s.size:=by simpa using h0
 have d:s.size<=8:=by simpa using d
 have U:s.toList.isEmpty=θ:=Jr h0;have V:ν ((8:gU)<s.size)=θ:=by simp;omega
 have z:=Hd r;clear r;go_enter func41,ntmps41;go_wp2;go_loopw [5] (λ_ w'=>∃pos,pos<=s.size/\w'=w.iter s pos) (λ_ w'=>s.size-w'.iterPos w.heap.size);case atStart=>exact⟨0,xzl _,lc⟩
 case round=>
  obtain⟨pos,I,rfl⟩:=hrel;by_cases hp:pos<s.size
  .have J:=z.o s[pos] (by simp[aA]);have G:(s[pos]'hp).toNat<128:=by omega
   have M:ν (((s[pos]'hp).toNat:gU)<97)=θ:=by simp;omega
   have S:ν ((122:gU)<((s[pos]'hp).toNat:gU))=θ:=by simp;omega
   have D:∀ty,(Instr.next (ξ (ζ ⟨w.heap.size,0,ε⟩)) η ty).run prog (w.iter s pos)=_:=λty=>run_next_ascii w s pos ty hp G;go_wp2;go_roundw;case rel=>exact⟨pos+1,by omega,lc⟩
   case measure=>simp;omega
  .have D:∀ty,(Instr.next (ξ (ζ ⟨w.heap.size,0,ε⟩)) η ty).run prog (w.iter s pos)=_:=λty=>run_next_end w s pos ty hp;have p:q9 s.data.toList=shd (s[0]'h0).toNat:=by
    unfold q9;cases e:s.data.toList with
    |nil=>
     have:s.data.toList.length=s.size:=by simp
     rw[e]at this;simp at this;omega
    |cons a l=>
     have:s[0]=a:=by
      have E:s[0]=s.data.toList[0]'(by simpa using h0):=by simp[aA]
      rw[E];simp[e]
     rw[this];rfl
   have y:=Hd p;clear p;have H:aI w.heap.size w (w.iter s pos):=(qy _ _).alloc (jg _) _;go_wp2;all_goals
    go_ret2;refine⟨?_,H⟩;rw[y.o];unfold shd
   .rw[gJ (by omega)];rfl
   .rw[gF (by omega),gJ (by omega)];rfl
   .rw[gF (by omega),gF (by omega),gJ (by omega)];rfl
   .rw[gF (by omega),gF (by omega),gF (by omega)];rfl
theorem jgv (s:bn) (w:ah) (J:0<s.size) (U:s.size<=8) (D:¬s.data.toList.all letter=η):aL prog 41 #[Γ s] w (Sc w):=by
 have V:s.toList.isEmpty=θ:=Jr J;have Y:ν ((8:gU)<s.size)=θ:=by simp;omega
 have G:=Hd D;clear D;go_enter func41,ntmps41;go_wp2;go_loopw [5] (λ_ w'=>∃pos,pos<=s.size/\w'=w.iter s pos/\(s.data.toList.take pos).all letter=η) (λ_ w'=>s.size-w'.iterPos w.heap.size);case atStart=>exact⟨0,xzl _,lc,by simp⟩
 case round=>
  obtain⟨pos,S,rfl,z⟩:=hrel;have h:=Hd z;clear z;by_cases hp:pos<s.size
  .have d:aI w.heap.size w (w.iter s (pos+(Utf8.decode s pos).2)):=(qy _ _).alloc (jg _) _;by_cases ha:(s[pos]'hp).toNat<128
   .have I:∀ty,(Instr.next (ξ (ζ ⟨w.heap.size,0,ε⟩)) η ty).run prog (w.iter s pos)=_:=λty=>run_next_ascii w s pos ty hp ha;have d:aI w.heap.size w (w.iter s (pos+1)):=(qy _ _).alloc (jg _) _;by_cases h1:(s[pos]'hp).toNat<97
    .have r:ν (((s[pos]'hp).toNat:gU)<97)=η:=by simp;omega
     go_wp2;go_ret2;exact⟨lc,d⟩
    .have r:ν (((s[pos]'hp).toNat:gU)<97)=θ:=by simp;omega
     by_cases h2:122<(s[pos]'hp).toNat
     .have y:ν ((122:gU)<((s[pos]'hp).toNat:gU))=η:=by simp;omega
      go_wp2;go_ret2;exact⟨lc,d⟩
     .have y:ν ((122:gU)<((s[pos]'hp).toNat:gU))=θ:=by simp;omega
      have p:letter s[pos]=η:=by simp[letter];omega
      have E:(s.data.toList.take (pos+1)).all letter=η:=by rw[Yr s pos hp,h.o,p];rfl
      have H:=Hd E;clear E p;go_wp2;go_roundw;case rel=>exact⟨pos+1,by omega,lc,H.o⟩
      case measure=>simp;omega
   .have M:=decode_high s pos hp (by omega);have I:∀ty,(Instr.next (ξ (ζ ⟨w.heap.size,0,ε⟩)) η ty).run prog (w.iter s pos)=_:=λty=>run_next_any w s pos ty hp;have r:ν (((Utf8.decode s pos).1:gU)<97)=θ:=by simp;omega
    have y:ν ((122:gU)<((Utf8.decode s pos).1:gU))=η:=by simp;omega
    go_wp2;go_ret2;exact⟨lc,d⟩
  .exact kT (by have e:=h.o;rwa [bA (by simp;omega)]at e) G.o
theorem Rj (s:bn) (w:ah) (h:jN s.data.toList=θ) (p:s.size<=aO):aL prog 41 #[Γ s] w (Sc w):=by
 by_cases h0:s.size=0\/8<s.size;{exact q69 s w h0 p}
 .refine jgv s w (by omega) (by omega) λd=>?_;have:jN s.data.toList=η:=by simp only[jN,aP,gY];exact⟨by simp;omega,by simp;omega,d⟩
  rw[h]at this;cases this
end
section
open Go.RowKit Go.Maps
abbrev Bs:=fo kZ
abbrev KV:=fo (Bs×Bs)
def sv (l:Bs):ac:=.string ⟨l.toArray⟩
def Rv:ac->gI (DataW Unit×fo MemPlace)
 |.agg cs=>match cs.toList with
  |[Γ s]=>ζ (.agg [.lit (.string s.data.toList)],[])
  |_=>ε
 |_=>ε
def ev (v:Bs):DataW Unit:=.agg [.lit (.string v)]
def DM (L:KV):DataW Unit:=.map (L.map λp=>(.string p.1,ev p.2))
def zk (w:ah) (mb:dw) (L:KV):Prop:=w.ownsMap prog 9 Rv mb L.length (DM L)
theorem Zv {v:ac} {b:Bs} {ps:fo MemPlace} (h:Rv v=ζ (ev b,ps)):v=Θ #[sv b]:=by
 cases v with
 |agg cs=>obtain⟨l⟩:=cs;simp only[Rv]at h;split at h;{rename_i s;simp only[Option.some.injEq,Prod.mk.injEq,ev]at h;obtain⟨d,_⟩:=h;injection d with d;injection d with d _;injection d with d;injection d with d;subst d;rfl};cases h
 |_=>cases h
def jh (L:KV) (k:Bs):gI Bs:=(L.find? (λp=>p.1==k)).map (·.2)
theorem jay (L:KV) (k:Bs):(L.map λp=>((aW p.1:Lit),ev p.2)).find? (λp=>p.1.sameKey (.string k))=(L.find? (λp=>p.1==k)).map λp=>(.string p.1,ev p.2):=by
 induction L with
 |nil=>rfl
 |cons p L ih=>rw[bh,cx,cx,ih];have:((aW p.1).sameKey (.string k))=(p.1==k):=lc;rw[this];cases p.1==k<;>rfl
theorem WO (L:KV) (k:Bs) (z:DataW Unit):(DM L).atKey (.string k) z=match jh L k with|some v=>ev v|none=>z:=by unfold DM DataW.atKey jh;dsimp only;rw[jay];cases L.find? (λp=>p.1==k)<;>rfl
theorem jga (L:KV) (k:Bs):Maps.has (DM L) (.string k)=(jh L k).isSome:=by
 unfold DM jh;rw[Maps.has_eq,Option.isSome_map,List.any_map];induction L with
 |nil=>rfl
 |cons p L ih=>rw[List.any_cons,cx,ih];have e:((λp:Lit×DataW Unit=>p.1.sameKey (.string k))∘λp:Bs×Bs=>((aW p.1:Lit),ev p.2)) p=(p.1==k):=lc;rw[e];cases p.1==k<;>rfl
theorem L9 (L:KV):Maps.size (DM L)=L.length:=by simp[DM,Maps.size]
theorem zk.of {L:KV} (h:w.ownsMap prog 9 Rv mb n (DM L)):zk w mb L:=by
 obtain⟨es,clock,r,F,y,d⟩:=h;refine⟨es,clock,r,F,?_,d⟩;have p:Maps.size (DM L)=es.size:=by rw[d];simp[Maps.size,length_sorted]
 rw[L9]at p;omega
theorem zk.block {L:KV} (h:zk w mb L) (k:w'.heap[mb]?=w.heap[mb]?):zk w' mb L:=by obtain⟨es,clock,d,F⟩:=h;exact⟨es,clock,k.trans d,F⟩
theorem Zx (w:ah):(zeroValue 146).run prog w=.ok (Θ #[Γ ⟨#[]⟩]) w:=by kernel_rfl
theorem LP (s:bn) (d:s.size<=aO):keyOf prog 9 (.string s)=ζ (.string s.data.toList):=WideMaps.keyOf_string_mk underlying9 d
section
variable {w:ah} {db mb:dw} {L:KV}
theorem jmg (p:w.cell? ⟨db,0,ε⟩=ζ (.map (ζ mb))) (h:zk w mb L):aL prog 68 #[ξ (ζ ⟨db,0,ε⟩)] w λe w'=>e=ψ (σ υ L.length)/\w'=w:=by have d:=h;have hlen:=λty=>d.len underlying140 ty;rw[L9]at hlen;clear d h;go_enter func68,ntmps68;go_wp2;go_ret;exact⟨lc,lc⟩
theorem ja4 (r:zk w mb L) (s:bn) (y:s.size<=aO):(Instr.lookup 140 (.map (ζ mb)) (.string s) η).run prog w=.ok (ο #[Θ #[sv ((jh L s.data.toList).getD [])],χ (jh L s.data.toList).isSome]) w:=by
 have p:=r;obtain⟨v,ps,d,h⟩:=p.look_ok (string_keyed underlying9) underlying140 (Zx w) (zd:=ev []) (zp:=[]) lc (LP s y);rw[jga]at d;rw[WO]at h;have:Rv v=ζ (ev ((jh L s.data.toList).getD []),ps):=by rw[h];cases jh L s.data.toList<;>rfl
 rw[d,Zv this]
def VT (w:ah) (x:gI Bs) (e:co) (w':ah):Prop:=e=ψ (ο #[sv (x.getD []),χ x.isSome])/\aI w.heap.size w w'
theorem Rl (p:w.cell? ⟨db,0,ε⟩=ζ (.map (ζ mb))) (d:zk w mb L) (s:bn) (h:s.size<=aO):aL prog 42 #[ξ (ζ ⟨db,0,ε⟩),Γ s] w (VT w (jh L s.data.toList)):=by have r:=ja4 d s h;clear d;unfold VT;generalize jh L s.data.toList=x at*;unfold sv at*;generalize (⟨(x.getD []).toArray⟩:bn)=bs at*;go_enter func42,ntmps42;go_wp2;go_ret2;exact⟨lc,(qy _ _).alloc (jg _) _⟩
end
structure But (B:dw->Prop) (w w':ah):Prop where
 size:w.heap.size<=w'.heap.size
 keep:∀k,k<w.heap.size->¬B k->w'.heap[k]?=w.heap[k]?
 os:w'.os=w.os
 output:w'.output=w.output
theorem But.refl (B:dw->Prop) (w:ah):But B w w:=⟨jg _,λ_ _ _=>lc,lc,lc⟩
theorem But.trans {b c:ah} (h:But B a b) (k:But B b c):But B a c:=
 ⟨xlt h.size k.size,λi p d=>(k.keep i (xll p h.size) d).trans (h.keep i p d),k.os.trans h.os,k.output.trans h.output⟩
theorem But.mono {d:dw->Prop} (h:But B w w') (k:∀b,B b->d b):But d w w':=⟨h.size,λi r p=>h.keep i r λx=>p (k i x),h.os,h.output⟩
theorem But.drew (h:But B w w'):But B w w'.drew:=⟨h.size,h.keep,h.os,h.output⟩
theorem il (h:aI w.heap.size w w'):But B w w':=⟨h.size,λi d _=>h.block i d,h.os,h.output⟩
def ins (k v:Bs):KV->KV
 |[]=>[(k,v)]
 |p::L=>if aj k p.1 then(k,v)::p::L else p::ins k v L
def nN (L:KV) (k v:Bs):KV:=ins k v (L.filter λp=>!(p.1==k))
def lI (L:KV) (k:Bs):KV:=L.filter λp=>!(p.1==k)
theorem Xo (L:KV) (k:Bs):((L.map λp=>((aW p.1:Lit),ev p.2)).filter λp=>!p.1.sameKey (.string k))=(lI L k).map λp=>(.string p.1,ev p.2):=by
 induction L with
 |nil=>rfl
 |cons p L ih=>have e:((aW p.1).sameKey (.string k))=(p.1==k):=lc;rw[bh,dh,ih];unfold lI;rw[dh];rw[e];cases p.1==k<;>rfl
theorem jfq (L:KV) (k:Bs):(DM L).del (.string k)=DM (lI L k):=by unfold DM DataW.del;dsimp only;rw[Xo]
theorem q1v (L:KV) (k v:Bs):DataW.insert ((aW k:Lit),ev v) (L.map λp=>((aW p.1:Lit),ev p.2))=(ins k v L).map λp=>(.string p.1,ev p.2):=by
 induction L with
 |nil=>rfl
 |cons p L ih=>rw[bh];unfold DataW.insert ins;have e:((aW k).before (aW p.1))=aj k p.1:=lc;rw[e];cases aj k p.1;{simp[ih]};rfl
theorem jg6 (L:KV) (k v:Bs):(DM L).put (.string k) (ev v)=DM (nN L k v):=by unfold DM DataW.put;dsimp only;rw[Xo,q1v];rfl
section
variable {w:ah} {db mb:dw} {L:KV}
theorem jcb (E:zk w mb L) (G:L.length<1073741823) (k v:bn) (D:k.size<=aO):
  ∃w',(Instr.mapUpdate 140 (.map (ζ mb)) (.string k) (Θ #[Γ v])).run prog w=.ok () w'/\zk w' mb (nN L k.data.toList v.data.toList)/\But (· =mb) w w':=by
 have r:Rv (Θ #[Γ v])=ζ (ev v.data.toList,[]):=lc;obtain⟨w',p,h,d⟩:=World.ownsMap.update E (string_keyed underlying9) underlying140 (by unfold aO;omega) (LP k D) r;rw[jg6]at h;exact⟨w',p,.of h,⟨d.size,λi z y=>d.block i z (by simpa using y),d.os,d.output⟩⟩
theorem jaf (z:zk w mb L) (k:bn) (y:k.size<=aO) (ty:bZ):
  ∃w',(Builtin.delete_ #[140,9] ty #[.map (ζ mb),Γ k]).run prog w=.ok (ο #[]) w'/\zk w' mb (lI L k.data.toList)/\But (· =mb) w w':=by
 obtain⟨w',p,d,⟨es,ck,G,h,r,rfl⟩⟩:=World.ownsMap.drop z (string_keyed underlying9) underlying140 (LP k y) ty;rw[jfq]at d;exact⟨_,p,.of d,⟨by simp[ChangeMaps.setBlock],λi E D=>ChangeMaps.heap_setBlock_other r _ D,lc,lc⟩⟩
def Px (w:ah) (mb:dw) (L:KV) (e:co) (w':ah):Prop:=e=ψ (ο #[])/\zk w' mb L/\But (· =mb) w w'
theorem IQ (d:w.cell? ⟨db,0,ε⟩=ζ (.map (ζ mb))) (h:zk w mb L) (H:L.length<1073741823) (k v:bn) (I:k.size<=aO):
  aL prog 69 #[ξ (ζ ⟨db,0,ε⟩),Θ #[Γ k,Γ v,χ θ]] w (Px w mb (nN L k.data.toList v.data.toList)):=by
 go_enter func69,ntmps69;go_wp2;have E:db<w.heap.size:=xbl w ⟨db,0,ε⟩ d;have c0:(w.alloc (ω #[Γ k,Γ v,χ θ] 87)).cell? ⟨w.heap.size,0,ε⟩=ζ (.string k):=by go_simp
 have c1:(w.alloc (ω #[Γ k,Γ v,χ θ] 87)).cell? ⟨w.heap.size,1,ε⟩=ζ (.string v):=by go_simp
 have J:(w.alloc (ω #[Γ k,Γ v,χ θ] 87)).cell? ⟨db,0,ε⟩=ζ (.map (ζ mb)):=(xcb (aX w _ E)).trans d;have G:But (· =mb) w (w.alloc (ω #[Γ k,Γ v,χ θ] 87)):=il ((qy _ _).alloc (jg _) _);have y:=h.lt;have r:zk (w.alloc (ω #[Γ k,Γ v,χ θ] 87)) mb L:=h.block (aX w _ y);generalize w.alloc (ω #[Γ k,Γ v,χ θ] 87)=W at*;obtain⟨S,M,p,z⟩:=jcb (w:=W.drew) (r.block lc) H k v I;refine aM 11 (by kernel_rfl) (by kernel_rfl) ?_;change wpStill _ _ W.drew (λD=>wpList _ _ _ _ D W.drew) _ _;simp only[aC,bB,aD,bC];repeat still_step
 refine bX ?_;go_wp2;go_end0;exact⟨lc,p,G.drew.trans z⟩
theorem PD (d:w.cell? ⟨db,0,ε⟩=ζ (.map (ζ mb))) (h:zk w mb L) (k v:bn) (H:k.size<=aO):
  aL prog 69 #[ξ (ζ ⟨db,0,ε⟩),Θ #[Γ k,Γ v,χ η]] w (Px w mb (lI L k.data.toList)):=by
 go_enter func69,ntmps69;go_wp2;have E:db<w.heap.size:=xbl w ⟨db,0,ε⟩ d;have c0:(w.alloc (ω #[Γ k,Γ v,χ η] 87)).cell? ⟨w.heap.size,0,ε⟩=ζ (.string k):=by go_simp
 have I:(w.alloc (ω #[Γ k,Γ v,χ η] 87)).cell? ⟨db,0,ε⟩=ζ (.map (ζ mb)):=(xcb (aX w _ E)).trans d;have G:But (· =mb) w (w.alloc (ω #[Γ k,Γ v,χ η] 87)):=il ((qy _ _).alloc (jg _) _);have y:=h.lt;have r:zk (w.alloc (ω #[Γ k,Γ v,χ η] 87)) mb L:=h.block (aX w _ y);generalize w.alloc (ω #[Γ k,Γ v,χ η] 87)=W at*;obtain⟨M,J,p,z⟩:=jaf (w:=W.drew) (r.block lc) k H 0;refine aM 7 (by kernel_rfl) (by kernel_rfl) ?_;change wpStill _ _ W.drew (λD=>wpList _ _ _ _ D W.drew) _ _;simp only[aC,bB,aD,bC];repeat still_step
 refine bX ?_;go_wp2;go_end0;exact⟨lc,p,G.drew.trans z⟩
end
end
section
theorem EG:∀a:Bs,aj a a=θ
 |[]=>rfl
 |x::r=>by simp[aj,EG r]
theorem MH:∀{a b c:Bs},aj a b=η->aj b c=η->aj a c=η
 |[],[],[],h,_=>h
 |[],_::_,[],_,h=>by simp[aj]at h
 |[],_,_::_,_,_=>rfl
 |_::_,[],_,h,_=>by simp[aj]at h
 |_::_,_::_,[],_,h=>by simp[aj]at h
 |x::r,y::s,z::t,h,k=>by simp only[aj,dt,gY,aP,beq_iff_eq]at*;rcases h with h|⟨h,d⟩<;>rcases k with k|⟨k,p⟩;{exact ι (UInt8.lt_trans h k)};{subst k;exact ι h};{subst h;exact ι k};subst h;subst k;exact κ ⟨lc,MH d p⟩
theorem Jd:∀a b:Bs,aj a b=η\/a=b\/aj b a=η
 |[],[]=>κ (ι lc)
 |[],_::_=>ι lc
 |_::_,[]=>κ (κ lc)
 |x::r,y::s=>by simp only[aj,dt,gY,aP,beq_iff_eq,List.cons.injEq];rcases bH (UInt8.le_refl x)with h|h;{exact kT h (UInt8.lt_irrefl x)};rcases UInt8.le_total x y with h1|h1;{rcases bH h1 with h2|h2;{exact ι (ι h2)};subst h2;rcases Jd r s with h3|h3|h3;{exact ι (κ ⟨lc,h3⟩)};{exact κ (ι ⟨lc,h3⟩)};exact κ (κ (κ ⟨lc,h3⟩))};rcases bH h1 with h2|h2;{exact κ (κ (ι h2))};subst h2;rcases Jd r s with h3|h3|h3;{exact ι (κ ⟨lc,h3⟩)};{exact κ (ι ⟨lc,h3⟩)};exact κ (κ (κ ⟨lc,h3⟩))
theorem MI {a b:Bs} (h:aj a b=η):aj b a=θ:=by
 cases e:aj b a with
 |false=>rfl
 |true=>have:=MH h e;rw[EG]at this;cases this
theorem Ls {a b:Bs} (h:aj a b=η):(a==b)=θ:=by rw[kw];rintro rfl;rw[EG]at h;cases h
theorem Gg {a b:Bs} (h:aj a b=η):(b==a)=θ:=by rw[kw];rintro rfl;rw[EG]at h;cases h
def yh (L:KV):Prop:=L.Pairwise λa b=>aj a.1 b.1=η
def qB:KV->Bs->dw
 |[],_=>0
 |p::L,k=>if aj p.1 k then qB L k+1 else 0
def pI:KV->Bs->iO
 |[],_=>θ
 |p::L,k=>if aj p.1 k then pI L k else p.1==k
def Et (L:KV) (k v:Bs) (g:iO):KV:=L.take (qB L k)++(if g then[]else[(k,v)])++L.drop (if pI L k then qB L k+1 else qB L k)
theorem X7 {L:KV} {k:Bs} (h:∀p∈L,aj k p.1=η):jh L k=ε/\lI L k=L:=by constructor;{unfold jh;rw[Option.map_eq_none_iff,List.find?_eq_none];intro p d;rw[Gg (h p d)];simp};unfold lI;rw[List.filter_eq_self];intro p d;rw[Gg (h p d)];rfl
theorem XH {L:KV} {k v:Bs} (h:∀p∈L,aj k p.1=η):ins k v L=(k,v)::L:=by
 cases L with
 |nil=>rfl
 |cons p L=>simp[ins,h p (.head _)]
theorem qpz {p:Bs×Bs} {L:KV} {k v:Bs} (h:aj p.1 k=η):nN (p::L) k v=p::nN L k v:=by simp[nN,Ls h,ins,MI h]
theorem qpy {p:Bs×Bs} {L:KV} {k:Bs} (h:aj p.1 k=η):lI (p::L) k=p::lI L k:=by simp[lI,Ls h]
theorem Yu {p:Bs×Bs} {L:KV} {k:Bs} (h:aj p.1 k=η):jh (p::L) k=jh L k:=by simp[jh,Ls h]
theorem Gm:∀{L:KV} (_:yh L) (k:Bs),qB L k<=L.length/\pI L k=(jh L k).isSome/\(∀v,jh L k=ζ v->L[qB L k]?=ζ (k,v))/\(∀v,Et L k v η=lI L k)/\(∀v,Et L k v θ=nN L k v)
 |[],_,k=>⟨jg _,lc,λv h=>by simp[jh]at h,λv=>lc,λv=>lc⟩
 |p::L,hr,k=>by
  obtain⟨D,I⟩:=bj.1 hr;obtain⟨S,J,M,G,H⟩:=Gm I k;unfold Et at G H|-;unfold qB pI;rcases Jd p.1 k with h|h|h;{simp only[h,jC];refine⟨by simp;omega,by rw[Yu h];exact J,λv d=>by rw[Yu h]at d;simpa using M v d,λv=>?_,λv=>?_⟩;{rw[qpy h,<-G v];cases pI L k<;>simp};rw[qpz h,<-H v];cases pI L k<;>simp};{obtain⟨pk,pv⟩:=p;obtain rfl:pk=k:=h;obtain⟨z,r⟩:=X7 D;rw[EG];simp only[cK,kM,beq_self_eq_true,jC];refine⟨xzl _,by simp[jh],λv d=>by simp[jh]at d;simp[d],λv=>?_,λv=>?_⟩;{unfold lI at r|-;simp[r]};unfold lI at r;unfold nN;simp[r,XH D]}
  .have E:∀q∈p::L,aj k q.1=η:=λq hq=>by rcases aF.1 hq with rfl|hq;{exact h};exact MH h (D q hq)
   obtain⟨z,r⟩:=X7 E;simp only[MI h,cK,kM];refine⟨xzl _,(by rw[z,Gg h];rfl),λv d=>(by rw[z]at d;cases d),λv=>(by rw[r,Gg h];simp),λv=>?_⟩;rw[Gg h];unfold nN;have y:=r;unfold lI at y;rw[y,XH E];simp
theorem PU {k v:Bs} {q:Bs×Bs}:∀{L:KV},q∈ins k v L->q=(k,v)\/q∈L
 |[],h=>by simp[ins]at h;exact ι h
 |p::L,h=>by unfold ins at h;split at h;{rcases aF.1 h with h|h;{exact ι h};exact κ h};rcases aF.1 h with h|h;{exact κ (h▸.head _)};rcases PU h with h|h;{exact ι h};exact κ (.tail _ h)
theorem X4 {k v:Bs}:∀{L:KV},yh L->(∀p∈L,(p.1==k)=θ)->yh (ins k v L)
 |[],_,_=>by simp[ins,yh]
 |p::L,hr,hn=>by
  obtain⟨d,r⟩:=bj.1 hr;unfold ins;split
  .rename_i h;exact bj.2 ⟨λq hq=>by
    rcases aF.1 hq with rfl|hq;{exact h}
    .exact MH h (d q hq),hr⟩
  .rename_i h;refine bj.2 ⟨λq hq=>?_,X4 r λq hq=>hn q (.tail _ hq)⟩;rcases PU hq with rfl|hq;{rcases Jd p.1 k with h1|h1|h1;{exact h1};{have:=hn p (.head _);rw[h1]at this;simp at this};exact kT h1 h};exact d q hq
theorem QI {L:KV} (h:yh L) (k:Bs):yh (lI L k):=h.filter _
theorem X3 {L:KV} (h:yh L) (k v:Bs):yh (nN L k v):=X4 (QI h k) λp d=>by have:=(cy.1 d).2;simpa using this
theorem XV (k v:Bs):∀L:KV,(ins k v L).length=L.length+1
 |[]=>rfl
 |p::L=>by unfold ins;split;{rfl};simp[XV k v L]
theorem PE (L:KV) (k:Bs):(lI L k).length<=L.length:=List.length_filter_le _ _
theorem YT (L:KV) (k v:Bs):(nN L k v).length<=L.length+1:=by unfold nN;rw[XV];have:=PE L k;unfold lI at this;omega
theorem jbm {L:KV} {k v:Bs} {q:Bs×Bs} (h:q∈nN L k v):q=(k,v)\/q∈L:=by rcases PU h with h|h;{exact ι h};exact κ (cy.1 h).1
theorem jbl {L:KV} {k:Bs} {q:Bs×Bs} (h:q∈lI L k):q∈L:=(cy.1 h).1
def inB (s t:Bs) (p:Bs×Bs):iO:=!aj p.1 s&&(t.isEmpty||aj p.1 t)
end
section
open Go.RowKit Go.Maps
def flat (L:KV):fo ac:=L.flatMap λp=>[sv p.1,sv p.2]
theorem Ad:flat []=[]:=rfl
theorem EF (p:Bs×Bs) (L:KV):flat (p::L)=sv p.1::sv p.2::flat L:=rfl
theorem Jv (A B:KV):flat (A++B)=flat A++flat B:=List.flatMap_append
theorem Nq (L:KV):(flat L).length=L.length*2:=by
 induction L with
 |nil=>rfl
 |cons p L ih=>rw[EF];simp only[da,ih];omega
theorem Qv:∀(L:KV) (k:dw),(flat L).take (k*2)=flat (L.take k)
 |[],k=>by simp[Ad]
 |p::L,0=>by simp[Ad]
 |p::L,k+1=>by rw[EF,aC,EF,show(k+1)*2=k*2+1+1 by omega,aC,aC,Qv L k]
theorem Ng:∀(L:KV) (k:dw),(flat L).drop (k*2)=flat (L.drop k)
 |[],k=>by simp[Ad]
 |p::L,0=>by simp
 |p::L,k+1=>by rw[EF,aD,show(k+1)*2=k*2+1+1 by omega,aD,aD,Ng L k]
theorem flat_get:∀(L:KV) (k:dw) (p:Bs×Bs),L[k]?=ζ p->(flat L)[k*2]?=ζ (sv p.1)/\(flat L)[k*2+1]?=ζ (sv p.2)
 |[],k,p,h=>by simp at h
 |q::L,0,p,h=>by simp at h;subst h;exact⟨lc,lc⟩
 |q::L,k+1,p,h=>by rw[EF,show(k+1)*2=k*2+1+1 by omega];simpa using flat_get L k p (by simpa using h)
theorem Qn {L:KV} {x:ac} (h:x∈flat L):∃s,x=.string s:=by obtain⟨p,_,h⟩:=List.mem_flatMap.1 h;rcases aF.1 h with rfl|h;{exact⟨_,lc⟩};rcases aF.1 h with rfl|h;{exact⟨_,lc⟩};cases h
def lu (w:ah) (v:ac):Prop:= ∀g,v.ownBlock=ζ g->∃cur ty,w.heap[g]?=ζ (.cells cur ty (0,0))/\∀x∈cur.toList,∃s,x=.string s
theorem lu.nil (w:ah):lu w (Δ ε 0 0):=λg h=>by cases h
theorem lu.block {v:ac} (h:lu w v) (k:∀g,v.ownBlock=ζ g->w'.heap[g]?=w.heap[g]?):lu w' v:=λg d=>
 let⟨cur,ty,h1,h2⟩:=h g d
 ⟨cur,ty,(k g d).trans h1,h2⟩
theorem Xi:∃i,prog.info? 74=ζ i/\i.zero=ζ (Θ #[Γ ⟨#[]⟩,Γ ⟨#[]⟩])/\i.size=2/\i.bytes=32:=by
 have h:(prog.info? 74).map (λi=>(i.zero,i.size,i.bytes))=ζ (ζ (Θ #[Γ ⟨#[]⟩,Γ ⟨#[]⟩]),2,32):=by kernel_rfl
 obtain⟨i,r,d⟩:=Option.map_eq_some_iff.1 h;injection d with d p;injection p with p y;exact⟨i,r,d,p,y⟩
structure Src (w:ah) (sa:gI Addr) (m:dw) (news:fo ac):Prop where
 len:news.length=m*2
 cell:∀ad,sa=ζ ad->∀j u,news[j]?=ζ u->w.cell? (ad.add j)=ζ u
 zero:sa=ε->m=0
 str:∀u∈news,∃s,u=.string s
theorem qp0 {z:eD ac} {x:ac} (d:0<z.size) (h:x∈(aU z n).toList):x∈z.toList:=by unfold aU at h;simp only[Array.mem_toList_iff]at h|-;rw[Array.mem_map]at h;obtain⟨i,_,rfl⟩:=h;have:i%z.size<z.size:=Nat.mod_lt _ d;rw[getElem!_pos z _ this];exact Array.getElem_mem this
section
variable {w:ah} {base n m c:dw} {v:ac} {xs news:fo ac} {sa:gI Addr}
theorem VK (ty:bZ) (h:w.ownsRow base 74 2 v n xs) (J:lu w v) (p:Src w sa m news) (hb:n+m<=1073741824) (lV:base<=w.heap.size):
  ∃v' w',(aK #[47,47] ty #[v,.slice sa m c]).run prog w=.ok v' w'/\w'.ownsRow base 74 2 v' (n+m) (xs++news)/\lu w' v'/\w.grownBy w' v.ownBlock:=by
 obtain⟨i,E,hz,I,Dp⟩:=Xi;have H:prog.underlying 47=ζ (.slice 74):=underlying47;have hlen:(xs++news).length=(n+m)*2:=by rw[cM,h.1,p.len,Nat.add_mul]
 have V:news.length=m*i.size:=by rw[I];exact p.len
 have one:∀u∈news,u.oneCell'=η:=λu hu=>by obtain⟨s,rfl⟩:=p.str u hu;rfl
 have Dc:∀x∈xs,∃s,x=.string s:=λx hx=>by rcases h.2 with⟨_,rfl⟩|⟨g,d,cur,rfl,_,z,_,_,_,sM⟩;{have:xs=[]:=au (by simpa using h.1);subst this;cases hx};obtain⟨kX,Vl,y,D⟩:=J g lc;rw[z]at y;cases y;rw[<-sM]at hx;exact D x (aV hx)
 have grown:∀(old:dw),old<n+m->∀(row:gI dw),
   (w.drew.alloc (.cells (xs.toArray++news.toArray++aU (Value.agg #[Γ ⟨#[]⟩,Γ ⟨#[]⟩]).cells (grownCap w (n+m) old 74-(n+m))) 74)).ownsRow base 74 2
    (Δ (ζ ⟨w.heap.size,0,ε⟩) (n+m) (grownCap w (n+m) old 74)) (n+m) (xs++news)/\
   lu (w.drew.alloc (.cells (xs.toArray++news.toArray++aU (Value.agg #[Γ ⟨#[]⟩,Γ ⟨#[]⟩]).cells (grownCap w (n+m) old 74-(n+m))) 74)) (Δ (ζ ⟨w.heap.size,0,ε⟩) (n+m) (grownCap w (n+m) old 74))/\
   w.grownBy (w.drew.alloc (.cells (xs.toArray++news.toArray++aU (Value.agg #[Γ ⟨#[]⟩,Γ ⟨#[]⟩]).cells (grownCap w (n+m) old 74-(n+m))) 74)) row:=by
  intro old ho row;have oZ:=grownCap_ge w (n+m) old 74;have M:grownCap w (n+m) old 74<=aO:=grownCap_le_maxLen w (n+m) old 74 (by unfold aO;omega);refine⟨⟨hlen,κ ⟨w.heap.size,_,_,lc,lV,heap_alloc_new w.drew _,oZ,M,?_,?_⟩⟩,?_,⟨lc,lc,lc,by simp,λk U _=>aX w.drew _ U⟩⟩;{have:(Value.agg #[Γ ⟨#[]⟩,Γ ⟨#[]⟩]).cells.size=2:=lc;have y:=h.1;have D:=p.len;rw[Array.size_append,Array.size_append,size_zeroCells,this,aT,aT];omega};{simp only[cG,cU];rw[<-cU,<-hlen];exact List.take_left};intro g z;cases z;refine⟨_,_,heap_alloc_new w.drew _,λx hx=>?_⟩;simp only[cG,cA]at hx;rcases hx with(hx|hx)|hx;{exact Dc x hx};{exact p.str x hx};have hx:=qp0 (by decide) hx;have:x∈[Value.string ⟨#[]⟩,Γ ⟨#[]⟩]:=hx;simp at this;exact⟨_,this⟩
 cases Ai:sa with
 |none=>have Y:=p.zero Ai;subst Y;have hn:news=[]:=au (by simpa using p.len);subst hn;refine⟨v,w,?_,by simpa using h,J,⟨lc,lc,lc,jg _,λ_ _ _=>lc⟩⟩;rcases h.2 with⟨rfl,rfl⟩|⟨g,d,cur,rfl,y,D,h3,h4,h5,h6⟩;{simp[aK,bm H,sizeOf,typeInfo,E,bG,aR,loadCells,loadCellsFrom]};simp[aK,bm H,sizeOf,typeInfo,E,bG,aR,loadCells,loadCellsFrom,storeCells,h3]
 |some ad=>
  have lT:=p.cell ad Ai;rcases h.2 with⟨rfl,rfl⟩|⟨g,d,cur,rfl,S,z,G8,M,iw,sM⟩;{have hx:xs=[]:=au (by simpa using h.1);subst hx;by_cases Y:m=0;{subst Y;have hn:news=[]:=au (by simpa using p.len);subst hn;refine⟨Δ ε 0 0,w,?_,by simpa using h,J,⟨lc,lc,lc,jg _,λ_ _ _=>lc⟩⟩;simp[aK,bm H,sizeOf,typeInfo,E,bG,aR,loadCells,loadCellsFrom]};have G:=run_append_nil (P:=prog) w 47 ty 74 i _ H E hz ad m c news V lT (by omega) (by omega) (by rw[Dp];omega);have r:=grown 0 (by omega) (Value.ownBlock (Δ ε 0 0));simp only[bw,List.nil_append,Array.empty_append]at r|-;exact⟨_,_,G,r.1,r.2.1,r.2.2⟩}
  .by_cases oC:n+m<=d
   .have zG:n*2+news.length<=cur.size:=by rw[p.len,iw,<-Nat.add_mul];exact cC _ oC
    have G:=run_append_room (P:=prog) w 47 ty 74 i H E g n d cur z ad m c news V lT one oC (by rw[I];exact zG);rw[I]at G;have hblk:=setRow_heap w g cur (cur.toList.take (n*2)++news++cur.toList.drop (n*2+news.length)).toArray 74 _ z;refine⟨_,_,G,⟨hlen,κ ⟨g,d,_,lc,S,hblk,oC,M,?_,?_⟩⟩,?_,⟨lc,lc,lc,by simp,λk _ U=>setRow_other w g k _ (λe=>U (by simp[Value.ownBlock,e]))⟩⟩;{simp only[aT,cM,aY,cg,Array.length_toList];omega};{rw[sM,<-hlen];exact List.take_left};intro g' gy;cases gy;refine⟨_,_,hblk,λx hx=>?_⟩;obtain⟨kX,Vl,y,D⟩:=J g lc;rw[z]at y;cases y;rcases cA.1 hx with hx|hx;{rcases cA.1 hx with hx|hx;{exact D x (aV hx)};exact p.str x hx};exact D x (List.mem_of_mem_drop hx)
   .have holds:∀j u,xs[j]?=ζ u->w.cell? ((⟨g,0,ε⟩:Addr).add j)=ζ u:=h.cells (g:=g) lc;have G:=run_append_grow (P:=prog) w 47 ty 74 i _ H E hz ⟨g,0,ε⟩ n d xs (by rw[I];exact h.1) holds ad m c news V lT (by omega) (by omega) (growslice_fits (by omega) (by rw[Dp];omega));have r:=grown d (by omega) (Value.ownBlock (Δ (ζ ⟨g,0,ε⟩) n d));exact⟨_,_,G,r.1,r.2.1,r.2.2⟩
theorem yu {rest:fo Oper} {a:Act} {Q:Exit->Act->ah->Prop} (p:o.guard=ε) (s x:bJ)
  (J:o.op=.call {callee:=.builtin .append,args:=#[s,x],argTypes:=#[47,47]})
  (es:a.eval s=v) (r:a.eval x=.slice sa m c) (y:w.ownsRow base 74 2 v n xs) (H:lu w v) (S:Src w sa m news) (I:n+m<=1073741824) (U:base<=w.heap.size)
  (h:∀d w',w'.ownsRow base 74 2 d (n+m) (xs++news)->lu w' d->w.grownBy w' v.ownBlock->wpList prog ops Q rest (a.put o.dst d) w'):wpList prog ops Q (o::rest) a w:=
 wpList_plain p λ_ G=>by obtain⟨d,w',M,z,D,E⟩:=VK (c:=c) o.type y H S I U;unfold Oper.wp al;simp only[J,resolve,invoke,builtin,dF,dG,Result.andThen_ok,ce,bh,cN,es,r,M];exact G _ _ (h d w' z D E)
end
theorem Bj:∀a b:Bs,Op.bytesLess a b=aj a b
 |[],[]=>rfl
 |[],_::_=>rfl
 |_::_,[]=>rfl
 |a::x,b::y=>by simp[Op.bytesLess,aj,Bj x y]
theorem VU:∀{L:KV} {k:Bs} (i:dw) (p:Bs×Bs),(∀(j:dw) (q:Bs×Bs),j<i->L[j]?=ζ q->aj q.1 k=η)->L[i]?=ζ p->aj p.1 k=θ->qB L k=i/\pI L k=(p.1==k)
 |[],_,_,_,_,h,_=>by simp at h
 |q::L,k,0,p,_,h,hp=>by simp at h;subst h;unfold qB pI;simp[hp]
 |q::L,k,i+1,p,hj,h,hp=>by have d:=hj 0 q (by omega) lc;obtain⟨r,y⟩:=VU (L:=L) (k:=k) i p (λj D E z=>hj (j+1) D (by omega) (by simpa using z)) (by simpa using h) hp;unfold qB pI;rw[gJ d,gJ d,r,y];exact⟨lc,lc⟩
theorem at_end:∀{L:KV} {k:Bs},(∀(j:dw) (q:Bs×Bs),L[j]?=ζ q->aj q.1 k=η)->qB L k=L.length/\pI L k=θ
 |[],_,_=>⟨lc,lc⟩
 |q::L,k,h=>by have d:=h 0 q lc;obtain⟨p,r⟩:=at_end (L:=L) (k:=k) λj z y=>h (j+1) z (by simpa using y);unfold qB pI;rw[gJ d,gJ d,p,r];exact⟨lc,lc⟩
theorem Below.drewN' {B:dw} (h:aI B a w) (n:dw):aI B a (w.drewN n):=⟨h.os,h.tape,h.output,h.size,h.block⟩
def Py (w:ah) (ix:dw) (has:iO) (e:co) (w':ah):Prop:=e=ψ (ο #[σ υ ix,χ has])/\aI w.heap.size w w'
section
variable {w:ah} {L:KV}
theorem at_nil (k:bn):aL prog 51 #[Δ ε 0 0,Γ k] w (Py w 0 θ):=by go_enter func51,ntmps51;go_wp2;refine bD 1 ?_;rw[aB];go_wp2;go_ret2;exact⟨lc,qy _ _⟩
theorem q95 (k:bn) {g cap:dw} (S:∀j (p:Bs×Bs),L[j]?=ζ p->w.cell? ⟨g,j*2,ε⟩=ζ (sv p.1)/\w.cell? ⟨g,j*2+1,ε⟩=ζ (sv p.2)) (hl:L.length<=1073741824):aL prog 51 #[Δ (ζ ⟨g,0,ε⟩) L.length cap,Γ k] w (Py w (qB L k.data.toList) (pI L k.data.toList)):=by
 have U:=Hd S;clear S;go_enter func51,ntmps51;go_wp2;go_loopw [10] (λi wr=>∃j:dw,j<=L.length/\i=σ υ j/\Hid (∀(i:dw) (q:Bs×Bs),i<j->L[i]?=ζ q->aj q.1 k.data.toList=η)/\aI w.heap.size w wr) (λi _=>L.length-(intOf i).toNat);case atStart=>exact⟨0,xzl _,lc,Hd (λi q h=>by omega),qy _ _⟩
 case round=>
  obtain⟨j,hj,rfl,z,G⟩:=hrel;by_cases iR:j<L.length
  .obtain⟨p,J⟩:∃p,L[j]?=ζ p:=⟨_,List.getElem?_eq_getElem iR⟩
   obtain⟨D,E⟩:=U.o j p J;have D:=(G.cell (xbl w _ D)).trans D;have E:=(G.cell (xbl w _ E)).trans E;have ek:p.1=(⟨p.1.toArray⟩:bn).toList:=by rw[aZ]
   have y:k.data.toList=k.toList:=by rw[aZ]
   have M:∀o,aI w.heap.size w (wr.alloc o):=λo=>G.alloc G.size _;cases rz:aj p.1 k.data.toList
   .have H:=VU j p z J rz;have r:=Hd H;clear H;have I:=rz;rw[ek,y,<-Bj]at I;have HE:Hid ((p.1==k.data.toList)=((⟨p.1.toArray⟩:bn).toList==k.toList)):=by rw[<-ek,<-y];rfl
    clear rz ek y;unfold sv at D E;generalize (⟨p.1.toArray⟩:bn)=pk at*;generalize (⟨p.2.toArray⟩:bn)=pv at*;go_wp2;go_quiet (fail);go_wp2;go_ret2;refine⟨?_,Below.drewN' (M _) _⟩;rw[r.1,r.2,HE];rfl
   .have I:=rz;rw[ek,y,<-Bj]at I;have V:Hid (∀(i:dw) (q:Bs×Bs),i<j+1->L[i]?=ζ q->aj q.1 k.data.toList=η):=λi q Y d=>by
     rcases Nat.lt_or_ge i j with h|h;{exact z i q h d}
     .obtain rfl:i=j:=by omega
      rw[J]at d;cases d;exact rz
    clear rz ek y z;unfold sv at D E;generalize (⟨p.1.toArray⟩:bn)=pk at*;generalize (⟨p.2.toArray⟩:bn)=pv at*;go_wp2;go_roundw;case rel=>exact⟨j+1,by omega,lc,V,M _⟩
    case measure=>simp[intOf];omega
  .have H:=at_end (L:=L) (k:=k.data.toList) λi q d=>z i q (by have:=(aH.1 d).1;omega) d;have r:=Hd H;clear H z;obtain rfl:j=L.length:=by omega
   go_wp2;go_ret2;refine⟨?_,G⟩;rw[r.1,r.2];rfl
end
def yx (w:ah) (base:dw) (v:ac) (L:KV):Prop:=w.ownsRow base 74 2 v L.length (flat L)/\lu w v
def Ja (w:ah) (L:KV) (e:co) (w':ah):Prop:= ∃v,e=ψ v/\yx w' w.heap.size v L/\aI w.heap.size w w'
section
variable {w:ah} {L:KV}
theorem Pt {v:ac} (h:w.ownsRow 0 74 2 v L.length (flat L)) (z:L.length<=1073741824) (k:bn):aL prog 51 #[v,Γ k] w (Py w (qB L k.data.toList) (pI L k.data.toList)):=by
 rcases h.2 with⟨rfl,E⟩|⟨g,d,cur,rfl,_⟩;{obtain rfl:L=[]:=au E;exact at_nil k}
 .exact q95 k (λj p D=>by
   obtain⟨r,y⟩:=flat_get L j p D;have c1:=h.cells (g:=g) lc _ _ r;have c2:=h.cells (g:=g) lc _ _ y;rw[bp,bw]at c1 c2
   exact⟨c1,c2⟩) z
theorem tX (k:bn):sv k.data.toList=.string k:=by unfold sv;simp
theorem qx {b:bn} {l:Bs} (h:b.data.toList=l):sv l=.string b:=by rw[<-h];exact tX b
theorem lu.alloc {v:ac} (h:lu w v) (o:Obj):lu (w.alloc o) v:=λg r=>by obtain⟨cur,ty,d,p⟩:=h g r;exact⟨cur,ty,(aX w o (j5 d).1).trans d,p⟩
theorem Src.one (w:ah) (a b:bn) (ty:bZ):Src (w.alloc (ω #[Γ a,Γ b] ty)) (ζ ⟨w.heap.size,0,ε⟩) 1 [Γ a,Γ b]:=by
 refine⟨lc,λr e j u d=>?_,λh=>(by cases h),λu p=>by simp at p;rcases p with rfl|rfl<;>exact⟨_,lc⟩⟩;cases e;rw[bp,bw];match j,d with
 |0,d=>simp at d;subst d;go_simp
 |1,d=>simp at d;subst d;go_simp
structure CA (cb:dw) (k x:bn) (g:iO) (w:ah):Prop where
 c0:w.cell? ⟨cb,0,ε⟩=ζ (.string k)
 c1:w.cell? ⟨cb,1,ε⟩=ζ (.string x)
 c2:w.cell? ⟨cb,2,ε⟩=ζ (.bool g)
theorem CA.of {x:bn} {g:iO} {ty:bZ} (d:aI (w.alloc (ω #[Γ k,Γ x,χ g] ty)).heap.size (w.alloc (ω #[Γ k,Γ x,χ g] ty)) w1):CA w.heap.size k x g w1/\aI w.heap.size w w1/\w.heap.size<w1.heap.size:=
 ⟨⟨(d.cell (p:=⟨w.heap.size,0,ε⟩) (by simp)).trans (by go_simp),(d.cell (p:=⟨w.heap.size,1,ε⟩) (by simp)).trans (by go_simp),(d.cell (p:=⟨w.heap.size,2,ε⟩) (by simp)).trans (by go_simp)⟩,
  ((qy _ _).alloc (jg _) _).trans (d.mono (by simp)),by have:=d.size;simp at this;omega⟩
theorem CA.grown {x:bn} {g:iO} {row:gI dw} (h:CA cb k x g w) (p:w.grownBy w1 row) (d:ζ cb≠row):CA cb k x g w1:=
 ⟨p.cell h.c0 d,p.cell h.c1 d,p.cell h.c2 d⟩
theorem xk {B:dw} {v:ac} {base:dw} (h:aI B a w) (d:w.grownBy w1 v.ownBlock) (r:w.ownsRow base 74 2 v n xs) (z:B<=base) (y:B<=w.heap.size):aI B a w1:=
 h.grown d y λj p=>by have:=(r.lt j p).1;omega
theorem jci {v:ac} {g cap:dw} (z:yx w 0 v L) (E:v=Δ (ζ ⟨g,0,ε⟩) L.length cap) (r:aI w.heap.size w w') (i m:dw) (y:i+m<=L.length):Src w' (ζ ⟨g,i*2,ε⟩) m (flat ((L.drop i).take m)):=by
 subst E;have h:=z.1;refine⟨by rw[Nq,aY,cg];omega,λH e j u p=>?_,λh=>(by cases h),λu D=>Qn D⟩;cases e;rw[<-Qv,<-Ng]at p;have G:j<m*2:=by have:=(aH.1 p).1;rw[aY]at this;omega
 rw[bi G,List.getElem?_drop]at p;have d:=h.cells (g:=g) lc _ _ p;rw[bp]at d|-;have d:w.cell? ⟨g,i*2+j,ε⟩=ζ u:=by simpa using d
 exact(r.cell (xbl w _ d)).trans d
theorem Bh {B:dw} {v:ac} {L:KV} (h:w.ownsRow b 74 2 v n xs) (D:lu w v) (z:B<=b) (e:xs=flat L):yx w B v L:=by
 have E:n=L.length:=by have:=h.1;rw[e,Nq]at this;omega
 subst E;subst e;exact⟨⟨h.1,h.2.imp id λ⟨g,d,cur,p,r,y⟩=>⟨g,d,cur,p,xlt z r,y⟩⟩,D⟩
theorem MF {g cap:dw} (h:n<=cap):(if cap=i then(ζ ⟨g,0,ε⟩:gI Addr)else ζ ⟨g,i*2,ε⟩)=ζ ⟨g,i*2,ε⟩\/n-i=0/\∃a,(if cap=i then(ζ ⟨g,0,ε⟩:gI Addr)else ζ ⟨g,i*2,ε⟩)=ζ a:=by by_cases hc:cap=i;{rw[gJ hc];exact κ ⟨by omega,_,lc⟩};rw[gF hc];exact ι lc
theorem L6 {g:dw} (p:∀w',aI w.heap.size w w'->∀i m,i+m<=L.length->Src w' (ζ ⟨g,i*2,ε⟩) m (flat ((L.drop i).take m))) (y:aI w.heap.size w w') (i:dw) (E:i<=L.length)
  (d:sa=ζ ⟨g,i*2,ε⟩\/(L.length-i=0/\∃a,sa=ζ a)):Src w' sa (L.length-i) (flat (L.drop i)):=by
 rcases d with rfl|⟨r,a,rfl⟩;{have:=p w' y i (L.length-i) (by omega);rwa [bA (by rw[cg];exact jg _)]at this};have z:L.drop i=[]:=List.drop_eq_nil_of_le (by omega);rw[z,r];exact⟨lc,λH e j u D=>by simp[Ad]at D,λh=>(by cases h),λu G=>by simp[Ad]at G⟩
theorem Src.nil {w:ah}:Src w ε 0 []:=⟨lc,λp e j u d=>by simp at d,λ_=>lc,λu h=>by cases h⟩
theorem Xu (k x:bn) (gone:iO) {g cap d:dw} {z:iO} (M:yx w 0 (Δ (ζ ⟨g,0,ε⟩) L.length cap) L) (zJ:L.length<=cap) (hl:L.length<=1073741822) (xR:qB L k.data.toList=d) (iV:pI L k.data.toList=z) (J:d<=L.length) (eZ:z=η->d<L.length):
  aL prog 52 #[Δ (ζ ⟨g,0,ε⟩) L.length cap,Θ #[Γ k,Γ x,χ gone]] w (Ja w (Et L k.data.toList x.data.toList gone)):=by
 have sF:=λw' (hb:aI w.heap.size w w')=>Pt (w:=w') (L:=L) (v:=Δ (ζ ⟨g,0,ε⟩) L.length cap) (by
  refine⟨M.1.1,M.1.2.imp id ?_⟩;rintro⟨g,cap,cur,h1,h2,h3,h4⟩
  exact⟨g,cap,cur,h1,h2,(hb.block g (j5 h3).1).trans h3,h4⟩) (by omega) k
 rw[xR,iV]at sF;have KT:=Hd sF;have iE:=λw' (hb:aI w.heap.size w w')=>jci M lc hb;have I:=Hd iE;unfold Et;rw[xR,iV];clear sF xR iV iE;have HR:=Hd M;clear M;have U:Hid (0+d+(L.length-d)<=1073741824/\0+d+(L.length-(d+1))<=1073741824/\0+d+1+(L.length-d)<=1073741824/\0+d+1+(L.length-(d+1))<=1073741824):=by refine⟨?_,?_,?_,?_⟩<;>omega
 have HL:Hid (z=η->d+1<=L.length):=eZ;clear eZ;cases z;case' true=>have Z4:d+1<=L.length:=HL.o lc
 all_goals cases gone
 all_goals
  go_enter func52,ntmps52;go_wp2_with (first
   |(go_at_call 51;refine(KT.o _ ((qy _ _).alloc (jg _) _)).mono ?_;rintro e w1 ⟨rfl,iB⟩;have H1:=Hd (CA.of iB);obtain⟨c0,c1,c2⟩:=H1.1;clear iB)
   |(at_builtin;refine yu (v:=Δ ε 0 0) lc (.const (Δ ε 0 0)) (.tmp 17) lc lc lc (bV _ w1.heap.size _ _) (lu.nil _) (I.o _ H1.2.1 0 d (by omega)) (by omega) (jg _) ?_;intro v2 w2 fu zT V;have H2:=Hd (H1.1.grown V (λe=>by cases e));obtain⟨c20,c21,c22⟩:=H2.o;have wS:=Hd (xlt (jg w1.heap.size) V.size);have H:=Hd fu;have wX:=Hd zT;have D:=Hd (H1.2.1.grown V (aJ H1.2.2) (λj hj=>by cases hj));clear fu zT V)
   |(at_builtin;refine yu (v:=v2) lc (.tmp 22) (.tmp 28) lc lc lc (H.alloc _) (wX.alloc _) (Src.one w2 k x _) (by omega) (xlt wS.o (by simp)) ?_;intro v3 w3 fH rT jQ;have S:=Hd fH;have OX:=Hd rT;have E:=Hd (xk (D.alloc D.size _) jQ (H.alloc _) (aJ H1.2.2) (xlt D.size (by simp)));have OI:=Hd (xlt wS.o (xlt (by simp) jQ.size));clear fH rT jQ)
   |(at_builtin;refine yu (v:=v3) lc (.tmp 33) (.tmp 36) lc lc lc S.o OX.o (L6 I.o E.o d J (MF zJ)) U.2.2.1 OI.o ?_;intro Y w4 h y r;have p:=xk E.o r S.o (aJ H1.2.2) E.size;have G:=Hd (aS (aS h y) p);clear h y r p)
   |(at_builtin;refine yu (v:=v3) lc (.tmp 33) (.tmp 36) lc lc lc S.o OX.o (L6 I.o E.o (d+1) Z4 (MF zJ)) U.2.2.2 OI.o ?_;intro Y w4 h y r;have p:=xk E.o r S.o (aJ H1.2.2) E.size;have G:=Hd (aS (aS h y) p);clear h y r p)
   |(at_builtin;refine yu (v:=v2) lc (.tmp 33) (.tmp 36) lc lc lc H.o wX.o (L6 I.o D.o d J (MF zJ)) U.1 wS.o ?_;intro Y w4 h y r;have p:=xk D.o r H.o (aJ H1.2.2) D.size;have G:=Hd (aS (aS h y) p);clear h y r p)
   |(at_builtin;refine yu (v:=v2) lc (.tmp 33) (.tmp 36) lc lc lc H.o wX.o (L6 I.o D.o (d+1) Z4 (MF zJ)) U.2.1 wS.o ?_;intro Y w4 h y r;have p:=xk D.o r H.o (aJ H1.2.2) D.size;have G:=Hd (aS (aS h y) p);clear h y r p)
   )
  all_goals go_ret
  all_goals exact⟨Y,lc,Bh G.1.1 G.1.2 (aJ H1.2.2) (by simp[Jv,EF,Ad,tX];try rw[<-Jv,List.take_append_drop]),G.2⟩
theorem WI (k x:bn):aL prog 52 #[Δ ε 0 0,Θ #[Γ k,Γ x,χ θ]] w (Ja w [(k.data.toList,x.data.toList)]):=by
 have KT:=Hd (λw'=>at_nil (w:=w') k);go_enter func52,ntmps52;go_wp2_with (first
  |(go_at_call 51;refine(KT.o _).mono ?_;rintro e w1 ⟨rfl,G⟩;have H1:=Hd (CA.of G);obtain⟨c0,c1,c2⟩:=H1.1;clear G)
  |(at_builtin;refine yu (v:=Δ ε 0 0) (sa:=ε) (m:=0) (news:=[]) lc (.const (Δ ε 0 0)) (.tmp 17) lc lc lc (bV _ w1.heap.size _ _) (lu.nil _) Src.nil (by omega) (jg _) ?_;intro v2 w2 D Y d;have H2:=Hd (H1.1.grown d (λe=>by cases e));obtain⟨c20,c21,c22⟩:=H2.o;have U:=Hd (xlt (jg w1.heap.size) d.size);have V:=Hd D;have wX:=Hd Y;have h:=Hd (H1.2.1.grown d (aJ H1.2.2) (λj hj=>by cases hj));clear D Y d)
  |(at_builtin;refine yu (v:=v2) lc (.tmp 22) (.tmp 28) lc lc lc (V.alloc _) (wX.alloc _) (Src.one w2 k x _) (by omega) (xlt U.o (by simp)) ?_;intro v3 w3 z S p;have y:=Hd z;have OX:=Hd S;have J:=Hd (xk (h.alloc h.size _) p (V.alloc _) (aJ H1.2.2) (xlt h.size (by simp)));have OI:=Hd (xlt U.o (xlt (by simp) p.size));clear z S p)
  |(at_builtin;refine yu (v:=v3) (sa:=ε) (m:=0) (news:=[]) lc (.tmp 33) (.tmp 36) lc lc lc y.o OX.o Src.nil (by omega) OI.o ?_;intro v4 w4 E M I;have H:=xk J.o I y.o (aJ H1.2.2) J.size;have r:=Hd (aS (aS E M) H);clear E M I H)
  )
 all_goals go_ret
 all_goals exact⟨v4,lc,Bh r.1.1 r.1.2 (aJ H1.2.2) (by simp[EF,Ad,tX]),r.2⟩
end
theorem jhq (c:dw):shd c=if c<104 then 0 else if c<110 then 1 else if c<117 then 2 else 3:=by unfold shd;by_cases h1:c<=103;{rw[gJ h1,gJ (show c<104 by omega)]};rw[gF h1,gF (show¬c<104 by omega)];by_cases h2:c<=109;{rw[gJ h2,gJ (show c<110 by omega)]};rw[gF h2,gF (show¬c<110 by omega)];by_cases h3:c<=116;{rw[gJ h3,gJ (show c<117 by omega)]};rw[gF h3,gF (show¬c<117 by omega)]
def IW (x:gU) (w:ah) (e:co) (w':ah):Prop:=e=ψ (σ υ x)/\aI w.heap.size w w'
section
variable {w:ah}
theorem q2l (s:bn) (h:s.size=0\/8<s.size):aL prog 50 #[Γ s] w (IW (-1) w):=by
 rcases h with h|h
 .have d:ν ((s.size:gU)<1)=η:=by simp;omega
  go_enter func50,ntmps50;go_wp2;go_ret;exact⟨lc,qy _ _⟩
 .have d:ν ((s.size:gU)<1)=θ:=by simp;omega
  have p:ν ((8:gU)<s.size)=η:=by simp;omega
  go_enter func50,ntmps50;go_wp2;go_ret;exact⟨lc,qy _ _⟩
theorem Mc (s:bn) (h:jN s.data.toList=η):aL prog 50 #[Γ s] w (IW (q9 s.data.toList) w):=by
 simp only[jN,aP,gY,dc,XU]at h;obtain⟨h0,H,M⟩:=h;have h0:0<s.size:=by simpa using h0
 have H:s.size<=8:=by simpa using H
 have iE:ν ((s.size:gU)<1)=θ:=by simp;omega
 have mq:ν ((8:gU)<s.size)=θ:=by simp;omega
 have J:q9 s.data.toList=shd (s[0]'h0).toNat:=by
  unfold q9;cases e:s.data.toList with
  |nil=>
   have:s.data.toList.length=s.size:=by simp
   rw[e]at this;simp at this;omega
  |cons a l=>
   have:s[0]=a:=by
    have V:s[0]=s.data.toList[0]'(by simpa using h0):=by simp[aA]
    rw[V];simp[e]
   rw[this];rfl
 rw[J];have G:=Hd M;clear M J;go_enter func50,ntmps50;go_wp2;go_loopw [3] (λi w'=>∃k:dw,k<=s.size/\i=σ υ k/\w'=w) (λi _=>s.size-(intOf i).toNat);case atStart=>exact⟨0,xzl _,lc,lc⟩
 case round=>
  obtain⟨k,Y,rfl,rfl⟩:=hrel;by_cases hp:k<s.size
  .have U:=G.o (s[k]'hp) (by simp[aA]);have y:ν (((s[k]'hp).toNat:gU)<97)=θ:=by simp;omega
   have z:ν ((122:gU)<((s[k]'hp).toNat:gU))=θ:=by simp;omega
   go_wp2;go_roundw;case rel=>exact⟨k+1,by omega,lc,trivial⟩
   case measure=>simp[intOf];omega
  .obtain rfl:k=s.size:=by omega
   have U:=G.o (s[0]'h0) (by simp[aA]);have S:(s[0]'h0).toNat<104\/(104<=(s[0]'h0).toNat/\(s[0]'h0).toNat<110)\/(110<=(s[0]'h0).toNat/\(s[0]'h0).toNat<117)\/117<=(s[0]'h0).toNat:=by omega
   have I:∀o,aI wr.heap.size wr (wr.alloc o):=λo=>(qy _ _).alloc (jg _) o;have HE:=Hd I;clear I;have d:∀n:gU,n<=((s[0]'h0).toNat:gU)->ν (n<=((s[0]'h0).toNat:gU))=η:=λn h=>xdt h;have r:∀n:gU,((s[0]'h0).toNat:gU)<n->ν (n<=((s[0]'h0).toNat:gU))=θ:=λn h=>xdf (by omega);have p:=Hd (jhq (s[0]'h0).toNat);rcases S with h|⟨h,E⟩|⟨h,E⟩|h;{have y:=r 104 (by omega);have z:=r 110 (by omega);have D:=r 117 (by omega);have p:=Hd (p.trans (gJ h));go_wp2;refine bD 4 ?_;rw[aB];go_wp2;rw[aB];go_wp2;rw[aB];go_wp2;rw[aB];go_wp2;go_ret;exact⟨by rw[p.o];rfl,HE.o _⟩};{have y:=d 104 (by omega);have z:=r 110 (by omega);have D:=r 117 (by omega);have p:=Hd (p.trans ((gF (by omega)).trans (gJ E)));go_wp2;refine bD 4 ?_;rw[aB];go_wp2;rw[aB];go_wp2;rw[aB];go_wp2;rw[aB];go_wp2;go_ret;exact⟨by rw[p.o];rfl,HE.o _⟩};{have y:=d 104 (by omega);have z:=d 110 (by omega);have D:=r 117 (by omega);have p:=Hd (p.trans ((gF (by omega)).trans ((gF (by omega)).trans (gJ E))));go_wp2;refine bD 4 ?_;rw[aB];go_wp2;rw[aB];go_wp2;rw[aB];go_wp2;rw[aB];go_wp2;go_ret;exact⟨by rw[p.o];rfl,HE.o _⟩};have y:=d 104 (by omega);have z:=d 110 (by omega);have D:=d 117 (by omega);have p:=Hd (p.trans ((gF (by omega)).trans ((gF (by omega)).trans (gF (by omega)))));go_wp2;refine bD 4 ?_;rw[aB];go_wp2;rw[aB];go_wp2;rw[aB];go_wp2;rw[aB];go_wp2;go_ret;exact⟨by rw[p.o];rfl,HE.o _⟩
theorem jch (s:bn) (E:0<s.size) (G:s.size<=8) (p:¬s.data.toList.all letter=η):aL prog 50 #[Γ s] w (IW (-1) w):=by
 have I:ν ((s.size:gU)<1)=θ:=by simp;omega
 have J:ν ((8:gU)<s.size)=θ:=by simp;omega
 have r:=Hd p;clear p;go_enter func50,ntmps50;go_wp2;go_loopw [3] (λi w'=>∃k:dw,k<=s.size/\i=σ υ k/\w'=w/\Hid ((s.data.toList.take k).all letter=η)) (λi _=>s.size-(intOf i).toNat);case atStart=>exact⟨0,xzl _,lc,lc,Hd (by simp)⟩
 case round=>
  obtain⟨k,H,rfl,rfl,d⟩:=hrel;by_cases hp:k<s.size
  .by_cases h1:(s[k]'hp).toNat<97
   .have z:ν (((s[k]'hp).toNat:gU)<97)=η:=by simp;omega
    go_wp2;go_ret;exact⟨lc,qy _ _⟩
   .have z:ν (((s[k]'hp).toNat:gU)<97)=θ:=by simp;omega
    by_cases h2:122<(s[k]'hp).toNat
    .have D:ν ((122:gU)<((s[k]'hp).toNat:gU))=η:=by simp;omega
     go_wp2;go_ret;exact⟨lc,qy _ _⟩
    .have D:ν ((122:gU)<((s[k]'hp).toNat:gU))=θ:=by simp;omega
     have h:letter s[k]=η:=by simp[letter];omega
     have y:Hid ((s.data.toList.take (k+1)).all letter=η):=Hd (by rw[Yr s k hp,d.o,h];rfl);clear h;go_wp2;go_roundw;case rel=>exact⟨k+1,by omega,lc,trivial,y⟩
     case measure=>simp[intOf];omega
  .exact kT (by have e:=d.o;rwa [bA (by simp;omega)]at e) r.o
theorem Pn (s:bn) (h:jN s.data.toList=θ):aL prog 50 #[Γ s] w (IW (-1) w):=by
 by_cases h0:s.size=0\/8<s.size;{exact q2l s h0}
 .refine jch s (by omega) (by omega) λd=>?_;have:jN s.data.toList=η:=by simp only[jN,aP,gY];exact⟨by simp;omega,by simp;omega,d⟩
  rw[h]at this;cases this
end
structure vC (w:ah) (cl n:dw) (db mb:dw) (mv:gI Addr) (L:KV):Prop where
 d:w.cell? ⟨cl,1+n*3+1,ε⟩=ζ (ξ (ζ ⟨db,0,ε⟩))
 v:w.cell? ⟨cl,1+n*3+2,ε⟩=ζ (.pointer mv)
 m:w.cell? ⟨db,0,ε⟩=ζ (.map (ζ mb))
 l:zk w mb L
theorem vC.block {cl:dw} {mv:gI Addr} {L:KV} (h:vC w cl n db mb mv L) (k:∀b,b=cl\/b=db\/b=mb->w'.heap[b]?=w.heap[b]?):vC w' cl n db mb mv L:=
 ⟨(xcb (k _ (ι lc))).trans h.d,(xcb (k _ (ι lc))).trans h.v,(xcb (k _ (κ (ι lc)))).trans h.m,h.l.block (k _ (κ (κ lc)))⟩
theorem vC.lt {cl:dw} {mv:gI Addr} {L:KV} (h:vC w cl n db mb mv L):cl<w.heap.size/\db<w.heap.size/\mb<w.heap.size:=
 ⟨xbl w _ h.d,xbl w _ h.m,h.l.lt⟩
theorem vC.below {cl:dw} {mv:gI Addr} {L:KV} (h:vC w cl n db mb mv L) (k:aI w.heap.size w w'):vC w' cl n db mb mv L:=
 h.block λb d=>k.block b (by have:=h.lt;rcases d with rfl|rfl|rfl<;>omega)
def RZ (x:gU) (w:ah) (e:co) (w':ah):Prop:=e=ψ (σ υ x)/\aI w.heap.size w w'
section
variable {w:ah} {cl db mb:dw} {L:KV}
theorem qwv (k v:bn) (g:iO) (h:jN k.data.toList=θ) (p:k.size<=aO):aL prog 40 #[ξ (ζ ⟨cl,0,ε⟩),Θ #[Γ k,Γ v,χ g]] w (RZ 2 w):=by
 go_enter func40,ntmps40;go_wp2_with (go_at_call 41;refine(Rj _ _ h p).mono ?_;rintro e w1 ⟨rfl,d⟩)
 go_ret;exact⟨lc,((qy _ _).alloc (jg _) _).trans (d.mono (by simp))⟩
structure ChW (cb cl n db mb:dw) (mv:gI Addr) (L:KV) (k v:bn) (g:iO) (w:ah):Prop where
 c0:w.cell? ⟨cb,0,ε⟩=ζ (.string k)
 c1:w.cell? ⟨cb,1,ε⟩=ζ (.string v)
 c2:w.cell? ⟨cb,2,ε⟩=ζ (.bool g)
 d:w.cell? ⟨cl,1+n*3+1,ε⟩=ζ (ξ (ζ ⟨db,0,ε⟩))
 v:w.cell? ⟨cl,1+n*3+2,ε⟩=ζ (.pointer mv)
 m:w.cell? ⟨db,0,ε⟩=ζ (.map (ζ mb))
 l:zk w mb L
theorem ChW.of {mv:gI Addr} {v:bn} {g:iO} (r:vC w cl n db mb mv L) (d:aI (w.alloc (ω #[Γ k,Γ v,χ g] 87)).heap.size (w.alloc (ω #[Γ k,Γ v,χ g] 87)) w1):
  ChW w.heap.size cl n db mb mv L k v g w1/\aI w.heap.size w w1:=by
 have h:aI w.heap.size w w1:=((qy _ _).alloc (jg _) _).trans (d.mono (by simp));obtain⟨pd,pv,z,y⟩:=r.below h;exact⟨⟨(d.cell (p:=⟨w.heap.size,0,ε⟩) (by simp)).trans (by go_simp),(d.cell (p:=⟨w.heap.size,1,ε⟩) (by simp)).trans (by go_simp),(d.cell (p:=⟨w.heap.size,2,ε⟩) (by simp)).trans (by go_simp),pd,pv,z,y⟩,h⟩
theorem ChW.below {mv:gI Addr} {v:bn} {g:iO} (h:ChW cb cl n db mb mv L k v g w) (p:aI w.heap.size w w1):ChW cb cl n db mb mv L k v g w1:=
 ⟨(p.cell (xbl w _ h.c0)).trans h.c0,(p.cell (xbl w _ h.c1)).trans h.c1,(p.cell (xbl w _ h.c2)).trans h.c2,(p.cell (xbl w _ h.d)).trans h.d,(p.cell (xbl w _ h.v)).trans h.v,(p.cell (xbl w _ h.m)).trans h.m,h.l.block (p.block _ h.l.lt)⟩
theorem ChW.but {mv:gI Addr} {v:bn} {g:iO} {y:KV} (h:ChW cb cl n db mb mv L k v g w) (r:But (· =mb) w w1) (z:zk w1 mb y):ChW cb cl n db mb mv y k v g w1:=by
 have ne:∀{b o:dw} {x:ac},w.cell? ⟨b,o,ε⟩=ζ x->b≠mb:=λ{b o x} p e=>by obtain⟨es,ck,r,_⟩:=h.l;subst e;unfold aG at p;rw[r]at p;cases p
 have cell:∀{b o:dw} {x:ac},w.cell? ⟨b,o,ε⟩=ζ x->w1.cell? ⟨b,o,ε⟩=ζ x:=λp=>(xcb (r.keep _ (xbl w _ p) (ne p))).trans p;exact⟨cell h.c0,cell h.c1,cell h.c2,cell h.d,cell h.v,cell h.m,z⟩
theorem ChW.drew {mv:gI Addr} {v:bn} {g:iO} (h:ChW cb cl n db mb mv L k v g w):ChW cb cl n db mb mv L k v g w.drew:=h.below (w1:=w.drew) ⟨lc,lc,lc,jg _,λ_ _=>lc⟩
theorem LJ {w:ah} {db mb:dw} {L:KV} (d:w.cell? ⟨db,0,ε⟩=ζ (.map (ζ mb))) (p:zk w mb L):aL prog 68 #[ξ (ζ ⟨db,0,ε⟩)] w λe w'=>e=ψ (σ υ L.length)/\w=w':=
 (jmg d p).mono λ_ _ h=>⟨h.1,h.2.symm⟩
def je0 (w:ah) (mb:dw) (L:KV) (c:gU) (e:co) (w':ah):Prop:=e=ψ (σ υ c)/\zk w' mb L/\But (· =mb) w w'
theorem q5p {mv:gI Addr} {W:ah} {v:bn} {g:iO} {A B:Prop} (h:A/\B/\Hid (ChW W.heap.size cl n db mb mv L k v g w1/\aI W.heap.size W w1)) (r:k.size<=aO):
  aL prog 42 #[ξ (ζ ⟨db,0,ε⟩),Γ k] w1 λe w'=>(e=ψ (ο #[sv ((jh L k.data.toList).getD []),χ (jh L k.data.toList).isSome]))/\ChW W.heap.size cl n db mb mv L k v g w'/\aI W.heap.size W w':=
 (Rl h.2.2.out.1.m h.2.2.out.1.l k r).mono λe w' ⟨p,d⟩=>⟨p,h.2.2.out.1.below d,h.2.2.out.2.trans (d.mono h.2.2.out.2.size)⟩
def rV (L:KV) (k v:Bs) (g:iO):gU:=if 12<v.length then 3 else if !g&&!(jh L k).isSome&&L.length==12 then 4 else if g&&!(jh L k).isSome then 6 else 0
def chL (L:KV) (k v:Bs) (g:iO):KV:=if rV L k v g=0 then(if g then lI L k else nN L k v)else L
theorem Zl {L:KV} {k v:Bs} {g:iO} (h:12<v.length):rV L k v g=3/\chL L k v g=L:=by
 have:rV L k v g=3:=by unfold rV;rw[gJ h]
 exact⟨this,by unfold chL;rw[this];rfl⟩
theorem Zk {L:KV} {k v:Bs} {g:iO} (h:¬12<v.length):
  (g=θ->(jh L k).isSome=θ->L.length=12->rV L k v g=4/\chL L k v g=L)/\(g=θ->((jh L k).isSome=η\/L.length≠12)->rV L k v g=0/\chL L k v g=nN L k v)/\
  (g=η->(jh L k).isSome=θ->rV L k v g=6/\chL L k v g=L)/\(g=η->(jh L k).isSome=η->rV L k v g=0/\chL L k v g=lI L k):=by
 unfold chL rV;rw[gF h];refine⟨λd h2 p=>?_,λd h2=>?_,λd h2=>?_,λd h2=>?_⟩;{subst d;simp[h2,p]};{subst d;rcases h2 with h2|h2<;>simp[h2]};{subst d;simp[h2]};subst d;simp[h2]
theorem qww (k v:bn) (g:iO) (n:dw) (hn:n<4) (hk:jN k.data.toList=η) (jH:q9 k.data.toList=n) (U:k.size<=aO) (hL:L.length<=16777216) (hp:vC w cl n db mb ε L):
  aL prog 40 #[ξ (ζ ⟨cl,0,ε⟩),Θ #[Γ k,Γ v,χ g]] w (je0 w mb (chL L k.data.toList v.data.toList g) (rV L k.data.toList v.data.toList g)):=by
 have pO:((n:gU)<4):=by omega
 go_enter func40,ntmps40;go_wp2_with (go_at_call 41;refine(IC _ _ hk).mono ?_;rintro e w1 ⟨rfl,hb⟩;rw[jH])
 obtain⟨Y,nJ⟩:=ChW.of hp hb;clear hb hp;have KR:=Hd nJ;have uH:=Hd Y;obtain⟨c0,c1,c2,pd,pv,pm,pl⟩:=id Y;clear nJ Y pl;go_region_held3 (λw'=>w'.cell? ⟨cl,1+n*3+1,ε⟩=ζ (ξ (ζ ⟨db,0,ε⟩))/\w'.cell? ⟨w.heap.size,0,ε⟩=ζ (.string k)/\Hid (ChW w.heap.size cl n db mb ε L k v g w'/\aI w.heap.size w w'))
  (first|exact⟨pd,c0,Hd ⟨uH.drew,KR.drew⟩⟩|exact⟨(y.1).d,(y.1).c0,y⟩)
  (first|(go_at_call 42;refine(q5p (by assumption) U).mono ?_;rintro e p ⟨rfl,pR⟩;have y:=Hd pR;clear pR))
 obtain⟨M,V⟩:∃b,(jh L k.data.toList).isSome=b:=⟨_,lc⟩
 rw[V];have HF:=Hd V;clear V;generalize sv ((jh L k.data.toList).getD [])=gv;obtain⟨e0,e1,e2,ed,ev,I,el⟩:=y.1;have r:=Hd el;have G:=Hd (il (B:=(· =mb)) y.2);clear el;by_cases ou:12<v.size
 .have HE:=Hd (Zl (L:=L) (k:=k.data.toList) (g:=g) (v:=v.data.toList) (by simpa using ou));have g1:ν ((12:gU)<v.size)=η:=by simp;omega
  go_wp2;go_ret;exact⟨by rw[HE.1];rfl,by rw[HE.2];exact r.o,G.o⟩
 have E:=Hd (Zk (L:=L) (k:=k.data.toList) (g:=g) (v:=v.data.toList) (by simpa using ou));rw[HF.o]at E;have g1:ν ((12:gU)<v.size)=θ:=by simp;omega
 cases g
 .cases M
  .by_cases sQ:L.length=12
   .have HE:=Hd (E.1 lc lc sQ);go_wp2_with (go_at_call 68;refine(LJ I r.o).mono ?_;rintro e w' ⟨rfl,rfl⟩)
    go_ret;exact⟨by rw[HE.1];rfl,by rw[HE.2];exact r.o,G.o⟩
   .have HE:=Hd (E.2.1 lc (κ sQ));go_wp2_with (go_at_call 68;refine(LJ I r.o).mono ?_;rintro e w' ⟨rfl,rfl⟩)
    refine aM 5 (by kernel_rfl) (by kernel_rfl) ?_;change wpStill _ _ p.drew (λH=>wpList _ _ _ _ H p.drew) _ _;simp only[aC,bB,aD,bC];repeat still_step
    refine bX ?_;go_wp2_with (go_at_call 69;refine(IQ (w:=p.drew) I (r.block lc) (by omega) k v U).mono ?_;rintro e w3 ⟨rfl,D,h⟩;have z:=Hd (y.1.drew.but h D);have S:=Hd (G.drew.trans h);obtain⟨f0,f1,f2,fd,fv,fm,J⟩:=z.o;clear J D h)
    go_ret;exact⟨by rw[HE.1];rfl,by rw[HE.2];exact z.l,S.o⟩
  .have HE:=Hd (E.2.1 lc (ι lc));go_wp2;refine aM 5 (by kernel_rfl) (by kernel_rfl) ?_;change wpStill _ _ p.drew (λH=>wpList _ _ _ _ H p.drew) _ _;simp only[aC,bB,aD,bC];repeat still_step
   refine bX ?_;go_wp2_with (go_at_call 69;refine(IQ (w:=p.drew) I (r.block lc) (by omega) k v U).mono ?_;rintro e w3 ⟨rfl,D,h⟩;have z:=Hd (y.1.drew.but h D);have S:=Hd (G.drew.trans h);obtain⟨f0,f1,f2,fd,fv,fm,J⟩:=z.o;clear J D h)
   go_ret;exact⟨by rw[HE.1];rfl,by rw[HE.2];exact z.l,S.o⟩
 .cases M;{have HE:=Hd (E.2.2.1 lc lc);go_wp2;go_ret;exact⟨by rw[HE.1];rfl,by rw[HE.2];exact r.o,G.o⟩}
  .have HE:=Hd (E.2.2.2 lc lc);go_wp2;refine aM 5 (by kernel_rfl) (by kernel_rfl) ?_;change wpStill _ _ p.drew (λH=>wpList _ _ _ _ H p.drew) _ _;simp only[aC,bB,aD,bC];repeat still_step
   refine bX ?_;go_wp2_with (go_at_call 69;refine(PD (w:=p.drew) I (r.block lc) k v U).mono ?_;rintro e w3 ⟨rfl,D,h⟩;have z:=Hd (y.1.drew.but h D);have S:=Hd (G.drew.trans h);obtain⟨f0,f1,f2,fd,fv,fm,J⟩:=z.o;clear J D h)
   go_ret;exact⟨by rw[HE.1];rfl,by rw[HE.2];exact z.l,S.o⟩
end
structure Clu (w:ah) (cl:dw) (db mb:dw->dw) (L:dw->KV):Prop where
 p:∀i,i<4->∃mv,vC w cl i (db i) (mb i) mv (L i)
 ne:∀i j,i<4->j<4->mb i=mb j->i=j
 len:∀i,i<4->(L i).length<=16777216
def vv (L:dw->KV) (n:dw) (x:KV):dw->KV:=λi=>if i=n then x else L i
theorem Jq (k:Bs):q9 k<4:=by unfold q9 shd;split;{decide};split;{decide};split<;>decide
section
variable {w w':ah} {cl:dw} {db mb:dw->dw} {L:dw->KV}
def Ch (L:dw->KV) (k:Bs):Bs:=if jN k then(jh (L (q9 k)) k).getD []else[]
def Ci (L:dw->KV) (k:Bs):gU:=if jN k then(if(jh (L (q9 k)) k).isSome then 0 else 6)else 2
def I9 (w:ah) (v:Bs) (c:gU) (e:co) (w':ah):Prop:=e=ψ (ο #[sv v,σ υ c])/\aI w.heap.size w w'
theorem ja3 (h:Clu w cl db mb L) (k:bn) (H:k.size<=aO):
  aL prog 19 #[ξ (ζ ⟨cl,0,ε⟩),Γ k] w (I9 w (Ch L k.data.toList) (Ci L k.data.toList)):=by
 have M:=Hd h;clear h;cases hk:jN k.data.toList
 .have d:=Hd hk;clear hk;go_enter func19,ntmps19;go_wp2_with (go_at_call 41;refine(Rj _ _ d.o H).mono ?_;rintro e w1 ⟨rfl,y⟩)
  go_ret2;unfold Ch Ci;rw[d.o];exact⟨lc,y⟩
 .have d:=Hd hk;clear hk;have Y:=Jq k.data.toList;obtain⟨mv,G⟩:=M.p _ Y;have z:Hid (Ch L k.data.toList=(jh (L (q9 k.data.toList)) k.data.toList).getD []/\Ci L k.data.toList=if(jh (L (q9 k.data.toList)) k.data.toList).isSome then 0 else 6):=by unfold Ch Ci;rw[d.o];exact⟨lc,lc⟩
  generalize J:q9 k.data.toList=n at*;have S:=Hd J;have U:=Hd G;obtain⟨x,D⟩:∃x,jh (L n) k.data.toList=x:=⟨_,lc⟩
  rw[D]at z;have V:=Hd D;clear G J D;have pO:((n:gU)<4):=by omega
  cases x;all_goals
   go_enter func19,ntmps19;go_wp2_with (first
    |(go_at_call 41;refine(IC _ _ d.o).mono ?_;rintro e w1 ⟨rfl,y⟩;rw[S.o];have r:=Hd (U.below y);have I:=Hd y;obtain⟨pd,pv,pm,pl⟩:=r.o;clear y pl)
    |(go_at_call 42;refine(Rl pm r.l k H).mono ?_;rintro e w2 ⟨rfl,E⟩;rw[V.o];have ig:=Hd (I.trans (E.mono I.size));clear E))
   go_ret2;exact⟨by rw[z.1,z.2];rfl,ig.o⟩
end
structure Mdl (w:ah) (ml sb:dw) (lv:dw->ac) (mp:dw->gI Addr) (L:dw->KV):Prop where
 s:∃cap,w.cell? ⟨ml,1,ε⟩=ζ (Δ (ζ ⟨sb,0,ε⟩) 4 cap)
 t:∃mc,w.heap[ml]?=ζ (.cells mc 101 (0,0))
 b:∃cur,w.heap[sb]?=ζ (.cells cur 104 (0,0))/\∀i,i<4->cur[i*3+1]?=ζ (lv i)/\cur[i*3+2]?=ζ (ξ (mp i))/\∃o:gU,cur[i*3]?=ζ (σ υ o)
 r:∀i,i<4->yx w 0 (lv i) (L i)
def qf {α:Type} (L:dw->α) (n:dw) (x:α):dw->α:=λi=>if i=n then x else L i
theorem qj {α:Type} (L:dw->α) (n:dw) (x:α):qf L n x n=x:=by unfold qf;rw[gJ lc]
theorem qh {α:Type} (L:dw->α) (x:α) (h:i≠n):qf L n x i=L i:=by unfold qf;rw[gF h]
section
variable {w w':ah} {ml sb:dw} {lv:dw->ac} {mp:dw->gI Addr} {L:dw->KV}
theorem Mdl.lts (h:Mdl w ml sb lv mp L):ml<w.heap.size/\sb<w.heap.size:=by obtain⟨r,d⟩:=h.t;obtain⟨cur,p,_⟩:=h.b;exact⟨(j5 d).1,(j5 p).1⟩
theorem Mdl.cl (h:Mdl w ml sb lv mp L) (z:i<4):w.cell? ⟨sb,i*3+1,ε⟩=ζ (lv i)/\w.cell? ⟨sb,i*3+2,ε⟩=ζ (ξ (mp i))/\w.frozen? ⟨sb,i*3+1,ε⟩=θ:=by obtain⟨cur,d,p⟩:=h.b;obtain⟨r,y,_⟩:=p i z;exact⟨by simp[aG,d,r],by simp[aG,d,y],by simp[bY,d]⟩
theorem Mdl.owner (h:Mdl w ml sb lv mp L) (y:i<4):∃o:gU,w.cell? ⟨sb,i*3,ε⟩=ζ (σ υ o):=by obtain⟨cur,d,p⟩:=h.b;obtain⟨_,_,o,r⟩:=p i y;exact⟨o,by simp[aG,d,r]⟩
theorem yx.block {v:ac} {l:KV} (h:yx w 0 v l) (k:∀g,v.ownBlock=ζ g->w'.heap[g]?=w.heap[g]?):yx w' 0 v l:=by refine⟨⟨h.1.1,h.1.2.imp id ?_⟩,h.2.block k⟩;rintro⟨g,d,cur,rfl,p,r,y⟩;exact⟨g,d,cur,lc,p,(k g lc).trans r,y⟩
theorem yx.ty {v:ac} {l:KV} (h:yx w b v l) {g:dw} (d:v.ownBlock=ζ g):∃cur,w.heap[g]?=ζ (.cells cur 74 (0,0)):=by rcases h.1.2 with⟨rfl,_⟩|⟨y,p,cur,rfl,_,r,_⟩;{cases d};cases d;exact⟨cur,r⟩
theorem Mdl.below (h:Mdl w ml sb lv mp L) (d:aI w.heap.size w w'):Mdl w' ml sb lv mp L:=by obtain⟨z,J⟩:=h.lts;obtain⟨p,D⟩:=h.s;obtain⟨M,E⟩:=h.t;obtain⟨cur,G,H⟩:=h.b;exact⟨⟨p,(d.cell z).trans D⟩,⟨M,(d.block _ z).trans E⟩,⟨cur,(d.block _ J).trans G,H⟩,λi y=>(h.r i y).block λg I=>d.block g (let⟨c,e⟩:=(h.r i y).ty I;(j5 e).1)⟩
theorem q48 {v:ac} {l:KV} (d:yx w 0 v l) (I:l.length<=1073741822) (S:yh l) (k x:bn) (g:iO) (H:g=η->pI l k.data.toList=η):
  aL prog 52 #[v,Θ #[Γ k,Γ x,χ g]] w (Ja w (if g then lI l k.data.toList else nN l k.data.toList x.data.toList)):=by
 obtain⟨p,r,y,z,D⟩:=Gm S k.data.toList;have e:(if g then lI l k.data.toList else nN l k.data.toList x.data.toList)=Et l k.data.toList x.data.toList g:=by cases g;{exact(D _).symm};exact(z _).symm
 rw[e];rcases d.1.2 with⟨rfl,M⟩|⟨b,E,cur,rfl,_,_,G,_⟩;{obtain rfl:l=[]:=au M;cases g;{exact WI k x};have:=H lc;simp[pI]at this};refine Xu k x g d G I lc lc p λh=>?_;rw[r]at h;obtain⟨v,J⟩:=Option.isSome_iff_exists.1 h;exact(aH.1 (y v J)).1
end
theorem But.setCell (h:But B w w') (p:B b) (o:dw) (v:ac):But B w (w'.setCell ⟨b,o,ε⟩ v):=
 ⟨by simpa using h.size,λk r d=>(xho w' _ k v λe=>d (by subst e;exact p)).trans (h.keep k r d),h.os,h.output⟩
section
variable {w:ah} {ml sb:dw} {lv:dw->ac} {mp:dw->gI Addr} {L:dw->KV}
theorem QE {α:Type} (L:dw->α) (n:dw):qf L n (L n)=L:=by funext i;unfold qf;split;{rename_i h;rw[h]};rfl
theorem Jk {v:ac} {l:KV} (h:yx w b v l):∃sa p,v=.slice sa l.length p:=by rcases h.1.2 with⟨rfl,r⟩|⟨g,d,cur,rfl,_⟩;{exact⟨ε,0,by rw[r]⟩};exact⟨_,_,lc⟩
theorem yx.to0 {v:ac} {l:KV} (h:yx w b v l):yx w 0 v l:=Bh h.1 h.2 (xzl _) lc
theorem qx6 (k v:bn) (g:iO) (h:jN k.data.toList=θ):aL prog 24 #[ξ (ζ ⟨ml,0,ε⟩),Θ #[Γ k,Γ v,χ g]] w (RZ 2 w):=by
 go_enter func24,ntmps24;go_wp2_with (go_at_call 50;refine(Pn _ h).mono ?_;rintro e w1 ⟨rfl,d⟩)
 go_ret;exact⟨lc,((qy _ _).alloc (jg _) _).trans (d.mono (by simp))⟩
theorem Zr {W:ah} {v:ac} (h:Mdl w1 ml sb lv mp L) (p:aI W.heap.size W w1) (z:n<4) (D:lv n=v) (E:(L n).length<=16777216):
  aL prog 51 #[v,Γ k] w1 λe w'=>(e=ψ (ο #[σ υ (qB (L n) k.data.toList),χ (pI (L n) k.data.toList)]))/\Mdl w' ml sb lv mp L/\aI W.heap.size W w':=by
 subst D;exact(Pt (h.r n z).1 (by omega) k).mono λe w' ⟨y,d⟩=>⟨y,h.below d,p.trans (d.mono p.size)⟩
theorem jcf (k:bn) (h:jN k.data.toList=θ):aL prog 26 #[ξ (ζ ⟨ml,0,ε⟩),Γ k] w (I9 w [] 2):=by
 go_enter func26,ntmps26;go_wp2_with (go_at_call 50;refine(Pn _ h).mono ?_;rintro e w1 ⟨rfl,d⟩)
 go_ret2;exact⟨lc,d⟩
theorem q2j (k:bn) (n:dw) (y:n<4) (J:jN k.data.toList=η) (M:q9 k.data.toList=n) (I:(L n).length<=16777216) (r:Mdl w ml sb lv mp L) (p:pI (L n) k.data.toList=θ):
  aL prog 26 #[ξ (ζ ⟨ml,0,ε⟩),Γ k] w (I9 w [] 6):=by
 have pO:((n:gU)<4):=by omega
 have G:=Hd r;have E:=Hd p;clear r p;go_enter func26,ntmps26;go_wp2_with (first
  |(go_at_call 50;refine(Mc _ J).mono ?_;rintro e w1 ⟨rfl,d⟩;rw[M];have M1:=Hd (G.below d);have z:=Hd d;obtain⟨H,Y⟩:=M1.s;obtain⟨S,U,V⟩:=M1.cl y;clear d)
  |(go_at_call 51;refine(Zr M1.o z.o y lc I).mono ?_;rintro e w2 ⟨rfl,h⟩;rw[E.o];have D:=Hd h;clear h))
 go_ret2;exact⟨lc,D.2⟩
theorem q2k (k:bn) (n:dw) (z:n<4) (hk:jN k.data.toList=η) (jH:q9 k.data.toList=n) (hL:(L n).length<=16777216) (E:Mdl w ml sb lv mp L) (V:pI (L n) k.data.toList=η) (x:Bs) (J:(L n)[qB (L n) k.data.toList]?=ζ (k.data.toList,x)):
  aL prog 26 #[ξ (ζ ⟨ml,0,ε⟩),Γ k] w (I9 w x 0):=by
 have pO:((n:gU)<4):=by omega
 have eZ:=(aH.1 J).1;obtain⟨ix,G⟩:∃i,qB (L n) k.data.toList=i:=⟨_,lc⟩
 obtain⟨g,S,I⟩:∃g S,lv n=Δ (ζ ⟨g,0,ε⟩) (L n).length S:=by rcases(E.r n z).1.2 with⟨_,hz⟩|⟨g,d,cur,h,_⟩;{omega};exact⟨g,d,h⟩
 have U:∀w',aI w.heap.size w w'->w'.cell? ⟨g,ix*2+1,ε⟩=ζ (sv x):=λw' y=>by have h1:=(flat_get (L n) _ _ J).2;have p:=((E.below y).r n z).1.cells (g:=g) (by rw[I];rfl) _ _ h1;rw[bp,bw,G]at p;exact p
 rw[G]at eZ;have HM:=Hd E;have HH:=Hd V;have H:=Hd I;have HC:=Hd U;have HI:=Hd G;have HS:Hid (sv x=.string ⟨x.toArray⟩):=Hd lc;generalize M:sv x=svx at*;unfold sv at M;subst M;clear E V I U G J;go_enter func26,ntmps26;go_wp2_with (first
  |(go_at_call 50;refine(Mc _ hk).mono ?_;rintro e w1 ⟨rfl,y⟩;rw[jH];have M1:=Hd (HM.below y);have Y:=Hd y;obtain⟨d,ms⟩:=M1.s;have m1:=(M1.cl z).1;rw[H.o]at m1;clear y)
  |(go_at_call 51;refine(Zr M1.o Y.o z H.o hL).mono ?_;rintro e w2 ⟨rfl,p⟩;rw[HH.o,HI.o];have D:=Hd p;obtain⟨Vb,ms2⟩:=D.1.s;have m2:=(D.1.cl z).1;rw[H.o]at m2;have c2:=HC.o _ D.2;clear p))
 go_ret2;exact⟨lc,D.2⟩
theorem jhc (k:bn) (p:∀i,i<4->(L i).length<=16777216) (z:∀i,i<4->yh (L i)) (r:Mdl w ml sb lv mp L):
  aL prog 26 #[ξ (ζ ⟨ml,0,ε⟩),Γ k] w (I9 w (Ch L k.data.toList) (Ci L k.data.toList)):=by
 unfold Ch Ci;cases hk:jN k.data.toList;{exact jcf k hk}
 .have d:=Jq k.data.toList;obtain⟨D,h,y,_⟩:=Gm (z _ d) k.data.toList;cases hx:jh (L (q9 k.data.toList)) k.data.toList with
  |none=>exact q2j k _ d hk lc (p _ d) r (by rw[h,hx];rfl)
  |some x=>exact q2k k _ d hk lc (p _ d) r (by rw[h,hx];rfl) x (y x hx)
end
def SS (x:dw->ac):eD ac:=#[x 0,x 1,x 2,x 3,x 4,x 5,x 6,x 7,x 8,x 9,x 10,x 11,x 12,x 13,x 14,x 15,x 16,x 17,x 18,x 19,x 20,x 21,x 22,x 23,x 24,x 25,x 26,x 27,x 28,x 29,x 30,x 31,x 32,x 33,x 34,x 35,x 36,x 37,x 38,x 39,x 40,x 41,x 42,x 43,x 44,x 45,x 46,x 47,x 48,x 49,x 50,x 51,x 52,x 53,x 54,x 55,x 56,x 57,x 58,x 59,x 60,x 61,x 62,x 63,x 64,x 65,x 66,x 67,x 68,x 69,x 70,x 71,x 72,x 73,x 74,x 75,x 76,x 77,x 78,x 79,x 80,x 81,x 82,x 83,x 84,x 85,x 86,x 87,x 88,x 89,x 90,x 91,x 92,x 93,x 94,x 95,x 96,x 97,x 98,x 99,x 100,x 101,x 102,x 103,x 104,x 105,x 106,x 107,x 108,x 109,x 110,x 111,x 112,x 113,x 114,x 115,x 116,x 117,x 118,x 119,x 120,x 121,x 122,x 123,x 124,x 125,x 126,x 127,x 128,x 129,x 130,x 131,x 132,x 133,x 134,x 135,x 136,x 137,x 138,x 139,x 140,x 141,x 142,x 143,x 144,x 145,x 146,x 147,x 148,x 149,x 150,x 151,x 152,x 153,x 154,x 155,x 156,x 157,x 158,x 159,x 160,x 161,x 162,x 163,x 164,x 165,x 166,x 167,x 168,x 169,x 170,x 171,x 172,x 173,x 174,x 175,x 176,x 177,x 178,x 179,x 180,x 181,x 182,x 183,x 184,x 185,x 186,x 187,x 188,x 189,x 190,x 191,x 192,x 193,x 194,x 195,x 196,x 197,x 198,x 199,x 200,x 201,x 202,x 203,x 204,x 205,x 206,x 207,x 208,x 209,x 210,x 211,x 212,x 213,x 214,x 215,x 216,x 217,x 218,x 219,x 220,x 221,x 222,x 223]
def upd (x:dw->ac) (j:dw) (v:ac):dw->ac:=λi=>if i=j then v else x i
theorem ql {x:dw->ac} {v:ac} (h:x j=v):∃y,x=upd y j v:=⟨x,by funext i;unfold upd;split<;>simp_all⟩
def hd1:Code->Code
 |.seq a _=>a
 |c=>c
def tl1:Code->Code
 |.seq _ b=>b
 |_=>.skip
noncomputable def tB:=(Tryz.f15.body).getD .skip
noncomputable def tO:=hd1 tB
noncomputable def tN:=hd1 (tl1 tB)
noncomputable def tEm:=hd1 (tl1 (tl1 tB))
noncomputable def tP:=hd1 (tl1 (tl1 (tl1 tB)))
noncomputable def tM:=tl1 (tl1 (tl1 (tl1 tB)))
structure OpV where
 k:gU
 a:gU
 b:gU
 c:gU
 d:gU
 e:gU
 f:gU
 s:bn
 t:bn
 u:bn
def OpV.cells (o:OpV):eD ac:=#[σ υ o.k,σ υ o.a,σ υ o.b,σ υ o.c,σ υ o.d,σ υ o.e,σ υ o.f,Γ o.s,Γ o.t,Γ o.u]
section
variable {x:dw->ac} {w:ah} {Q:Exit->Act->ah->Prop} {o:OpV} {W ob:dw}
theorem jns (d:x 1=.agg o.cells) (h:Q .normal ⟨SS (upd (upd x 3 (ξ (ζ ⟨w.heap.size,0,ε⟩))) 4 (.bool θ)),[]⟩ (w.alloc (.cells o.cells 30))):Code.wp prog tO Q ⟨SS x,[]⟩ w:=by obtain⟨x,rfl⟩:=ql d;clear d;unfold tO tB SS;simp only[Tryz.f15,Option.getD,hd1,upd,Nat.reduceEqDiff,jC,kM];unfold OpV.cells at*;go_wp2;exact h
def uX (k:gU) (R:ah->Prop):Exit->Act->ah->Prop
 |.ret,a,w=>(∃b,a.tmps.getD 4 ae=.bool b/\(k=1\/k=11->b=η))/\a.defers=[]/\R w
 |_,_,_=>jb
end
end
namespace Ph
open Go.Conc Go.ConcN Go.RowKit Go.Maps Go.Conc.Lib Go Sim
abbrev fT:aN:=15
def bT:aw:=base fT
theorem But.same' {wc:ah} (s:Same w wc):But B w wc:=⟨by rw[s.heap];exact jg _,λk _ _=>by rw[s.heap],s.os,s.output⟩
structure OpV.Ok (o:OpV):Prop where
 k: -9223372036854775808<=o.k/\o.k<=9223372036854775807
 a: -9223372036854775808<=o.a/\o.a<=9223372036854775807
 b: -9223372036854775808<=o.b/\o.b<=9223372036854775807
 c: -9223372036854775808<=o.c/\o.c<=9223372036854775807
 d: -9223372036854775808<=o.d/\o.d<=9223372036854775807
 e: -9223372036854775808<=o.e/\o.e<=9223372036854775807
 f: -9223372036854775808<=o.f/\o.f<=9223372036854775807
 s:o.s.size<=140737488355328
 t:o.t.size<=140737488355328
 u:o.u.size<=140737488355328
theorem OpV.Ok.s' {o:OpV} (h:OpV.Ok o):o.s.size<=aO:=by have:=h.s;unfold aO;omega
def lay (n:dw) (x:dw->ac):eD ac:=((et n).map x).toArray
section
variable {n j:dw} {x:dw->ac} {v:ac}
theorem Mg (h:j<n):(lay n x)[j]?=ζ (x j):=by simp[lay,h]
theorem I8 (h:j<n):(lay n x).getD j ae=x j:=by rw[bL,Mg h];rfl
theorem wI:(lay n x).setIfInBounds j v=lay n (upd x j v):=by apply eL;{simp[lay]};intro i d p;simp only[lay,Array.size_setIfInBounds,aT,List.length_map,List.length_range]at d p;rw[Array.getElem_setIfInBounds];{simp only[lay,upd,List.getElem_toArray,List.getElem_map,List.getElem_range];by_cases e:j=i;{rw[gJ e,gJ e.symm]};rw[gF e,gF λh=>e h.symm]};simpa[lay]using d
theorem Bc {t:eD ac} (h:t.size=n):lay n (λi=>t.getD i ae)=t:=by apply eL;{simp[lay,h]};intro i p d;simp only[lay,List.getElem_toArray,List.getElem_map,List.getElem_range];rw[bL,Array.getElem?_eq_getElem d];rfl
abbrev evx (n:dw) (x:dw->ac):bJ->ac:=(ai (lay n x) []).eval
theorem Gs (h:j<n):evx n x (.tmp j)=x j:=I8 h
theorem tmp {n j:dw} {x:dw->ac} {v:ac} (h:j<n) (e:x j=v):evx n x (.tmp j)=v:=(Gs h).trans e
theorem xg {n j:dw} {x:dw->ac} {v:ac} (e:x j=v) (h:j<n:=by decide):evx n x (.tmp j)=v:=tmp h e
def Pure (e:bJ->ac) (o:Oper) (v:ac):Prop:= ∀w,(al e o).run prog w=.ok (.value v) w/\(al e o).events prog w #[]=#[]
variable {e:bJ->ac} {o:Oper} {a b c:bJ} {m n:gU} {t u:iO} {ty:bZ}
theorem Pure.add (h:o.op=.binOp .add 3 a b 3) (d:e a=σ υ m) (p:e b=σ υ n) (y: -9223372036854775808<=m+n) (z:m+n<=9223372036854775807):Pure e o (σ υ (m+n)):=λw=>by
 have r:IntKind.i64.wrap (m+n)=m+n:=by rw[bE];omega
 unfold al;constructor<;>simp[go_sem,h,d,p,r]
end
end Ph
end Go.Proofs.YtkpekiajdlolnabGreat
