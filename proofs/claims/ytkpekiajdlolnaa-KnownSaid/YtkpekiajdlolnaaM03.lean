/- PROVED: part 3 of the claim's ground. Conditions: those that each theorem names. -/
import Derived.Test.YtkpekiajdlolnaaM02
import Derived.Conc.DeferLaws
import Derived.Conc.CompanyDraw
import Derived.Conc.Own3
import Derived.Conc.WgWords
import Derived.WalkKit
import Derived.Conc.LeavingOf
import Derived.Test.YtkpekiajdlolnaaChecked
import Derived.LoopTactic
import Derived.Lib.Hide
import Derived.Outline
import Derived.Maps.Own
import Derived.StringKeys
import Derived.Maps.OwnOps
import Derived.Maps.OwnSet
import Derived.BigQuiet
import Derived.Deep.QuietTactic
import Derived.StillTailTactics
import Derived.Laws.AppendOwn
import Derived.OwnWalk
import Derived.Laws.Cover1
import Derived.Deep.RegionHeld3
import Derived.Deep.RegionWith
set_option linter.unusedVariables false
set_option linter.unusedSimpArgs false
set_option maxRecDepth 100000
set_option maxHeartbeats 16000000
variable{B b c cb cl db i j kb mb n tb:Nat} {F O SB:Go.Proofs.Ytkpekiajdlolnaa.Sim.Blocks} {K:Go.Goroutine->Go.World->Prop} {Q:Go.Exit->Go.Act->Go.World->Prop} {R:Go.Value->Go.World->Prop} {Stop:Go.Proofs.Ytkpekiajdlolnaa.Sim.Blocks->Go.Proofs.Ytkpekiajdlolnaa.Sim.Blocks->Go.Goroutine->Go.World->Prop} {a w w' w1:Go.World} {ad:Go.Addr} {cs:List Go.Frame} {e:Go.Operand->Go.Value} {f:Go.FuncId} {fr:Go.Frame} {g:Go.Goroutine} {gs:Array Go.Goroutine} {k:List Go.Item} {l l':List (Nat×Go.Value)} {o:Go.Oper} {ops:Array Go.Oper} {q:Nat->Nat} {qw:Nat->Go.Proofs.Ytkpekiajdlolnaa.Sim.Blocks->Go.Value->Go.World->Prop} {s:ByteArray} {sa:Option Go.Addr} {sl:Option (Nat×Nat)} {t:Go.Trace} {xs:List Go.Value} {ρ:Go.Proofs.Ytkpekiajdlolnaa.Sim.Rel}
open Go.Proofs.Try
open Go.Region renaming wanted→aa,ready→au
open Go renaming undef→ac,World→ae,Value→ag,execOp→ai,Frame→ak,Goroutine→al,bytesBefore→ao,yielded→ax,FuncId→aC,wp_region_still_tail→aF,maxLen→aJ,Program→aK,heap_alloc_old→aO,stepG→aT,run_underlying→aX,Calls→bi,MapEntry→bk,wpStill_nil→bp,Trace→br,mem_ready→bz,getD_set_ne→bL,Operand→bZ,TypeId→co,Ending→cx,Deferred→cH,callFunc→cL
open Go.Act renaming mk→ah
open Array renaming getElem?_push→aj,replicate→bH,toList_append→bR
open Go.Conc renaming stepG_region_end→am,stepG_region→ay,stepG_seq→aB,aside_setCell→aR,stepG_value→aU,mem_listed→bj,goes_go→bm,stepG_block→bo,seen_none→bA,Leavers→bE,stepG_enter→bM,stepG_inBlock→bU,stepG_skip→cM
open Go.Frame renaming enter→aq,finish→dh
open Go.Region.linearise renaming go→av
open List renaming eq_nil_of_length_eq_zero→aw,take_succ_cons→az,drop_succ_cons→aA,mem_of_mem_take→aM,map_cons→aS,size_toArray→aY,take_zero→aZ,drop_zero→ba,mem_cons→bd,getElem?_take_of_lt→bq,all_eq_true→bw,map_toArray→bC,length_take→bD,find?_cons→bI,mem_append→bJ,length_append→bX,map_nil→ca,append_assoc→cn,length_cons→cw,filter_cons→cz,range→cJ,mem_range→cK,length→dn
open Go.Builtin renaming append_→aD,firstCells→aH,zeroCells→aL,lenOf→bg,len_→bG,min_→da,min2→dc
open Go.World renaming cell?→aE,frozen?→bT
open Option renaming map_eq_some_iff→aG,getD→cC,map_some→cE
open Nat renaming reduceAdd→aI,mul_le_mul_right→bO,zero_add→ce
open Go.Lit renaming string→aN
open Bool renaming and_eq_true→aP,or_eq_true→cG
open Ne renaming symm→aQ
open Go.RowKit renaming Below→aV
open ByteArray renaming getElem_eq_getElem_data→aW
open UInt8 renaming lt_or_eq_of_le→bh
namespace Go.Proofs.Ytkpekiajdlolnaa
namespace Ph
section
open Go Go.Conc Go.ConcN Sim
structure Co (X:Cx) (Fb bl:aC->Bool) (SB:Blocks) (ρ:Rel) (gs:Array al) (fr:ak) (cs:List ak) (w:ae) (t:br) (q:Nat->Nat):Prop where
 g0:gs[0]?=some (G fr cs)
 leavers:bE X.P t gs q
 past:vz SB w gs.size t
 foot:sU SB (rng ρ) (own X ρ) w
 fr:bl fr.fn=false->FR X Fb true ρ (wt fr []) (wt fr [])
 cs:∀c∈cs,bl c.fn=false->FR X Fb true ρ (wt c []) (wt c [])
 wr:WR X ρ w w
 nb:NB w
def Comes (X:Cx) (Fb bl:aC->Bool) (SB:Blocks) (ρ:Rel) (gs:Array al) (w:ae) (sl:Option (Nat×Nat)) (t:br) (cs:List ak) (Z:ak->ae->Prop):Prop:=
 ∃(eH:Array al) (dY:ak) (w':ae) (sl':Option (Nat×Nat)) (t':br) (q':Nat->Nat) (ρ':Rel),Runs X.P gs w sl t eH w' sl' t'/\eH.size=gs.size/\ρ.le ρ'/\Z dY w'/\Co X Fb bl SB ρ' eH dY cs w' t' q'
section
variable {X:Cx} {Fb bl:aC->Bool} {SB:Blocks}
theorem KR {f:ak} {t:List Item} (h:FR X Fb true ρ (wt f []) (wt f [])) (ht:IsR X Fb true ρ t t):FR X Fb true ρ (wt f t) (wt f t):=
 ⟨h.fn,h.same,h.tmps,ht,h.defers,h.mode,h.run,h.kind,h.kind',h.round⟩
theorem Xu {b:ak}:xW k (Tgt b (st k) Q):=by
 rintro fr cs w ⟨hc,e,a,_,hl⟩;refine⟨hc,?_⟩;cases e with
 |normal=>obtain rfl:=hl;exact .inr ⟨rfl,k,rfl,.inl rfl⟩
 |exit id=>
  obtain⟨k',h1,rfl⟩:=hl;rw[I8]at h1;obtain⟨k1,h2,rfl⟩:=aG.1 h1;exact .inr ⟨rfl,k1,rfl,.inr ⟨id,h2⟩⟩
 |ret=>obtain⟨todo,rfl⟩:=hl;exact .inl rfl
 |_=>exact hl.elim
theorem Rc {k':List Item} (h:k'=k\/∃id,exitTo id k=some k'):k' <:+ k:=by
 rcases h with rfl|⟨id,h⟩
 ·exact List.suffix_refl _
 ·exact Sc h
theorem WV {b:ak} {gr:ak} {e:Exit} {a:Act} (h:Way k fr gr) (hl:zQ b (st k) e a fr):zQ b k e a gr:=by
 cases h with
 | @land f k' hm hk=>
  have key:∀k1,(k1=k\/∃id,exitTo id k=some k1)->wt f (st k')=b.at a (st k1)->wt f k'=b.at a k1:=λk1 h1 e=>by
   have e1:st k'=st k1:=congrArg Frame.todo e;have e2:=jbi (Rc hk) (Rc h1) e1;subst e2;exact congrArg (wt · k') e
  cases e with
  |normal=>exact key k (.inl rfl) hl
  |exit id=>
   obtain⟨k2,h1,h2⟩:=hl;rw[I8]at h1;obtain⟨k1,h3,rfl⟩:=aG.1 h1;exact⟨k1,h3,key k1 (.inr ⟨id,h3⟩) h2⟩
  |ret=>
   obtain⟨todo,hl⟩:=hl;have:f.mode=.returning:=congrArg Frame.mode hl;rw[hm]at this;cases this
  |_=>exact hl.elim
 | @ret f t t' hm=>
  cases e with
  |normal=>
   have:f.mode=.run:=congrArg Frame.mode hl;rw[hm]at this;cases this
  |exit id=>
   obtain⟨k2,h1,h2⟩:=hl;have:f.mode=.run:=congrArg Frame.mode h2;rw[hm]at this;cases this
  |ret=>
   obtain⟨todo,hl⟩:=hl;exact⟨t',congrArg (wt · t') hl⟩
  |_=>exact hl.elim
theorem Co.carry (nS:X.P'=X.P) (S:X.Set Fb true (λ_=>false)) {b gr:ak}
  (h:Co X Fb bl SB ρ gs gr cs w t q) (yI:Sw k fr [] gr []) (hf:FR X Fb true ρ fr fr) (ny:fr.roundOf=none) (qW:∀e a w wc,Same w wc->Q e a w->Q e a wc)
  (hm:lH X.P (Tgt b (st k) Q) fr [c0] w):
  Comes X Fb bl SB ρ gs w sl t cs (λdY w'=>∃e a',Q e a' w'/\zQ b k e a' dY):=by
 have hB:Bot [fr]:=by
  intro f hf;simp at hf;subst hf;exact ny
 obtain⟨N,eH,gV,Az,w2,lV,sl',t',q',ρ2,hr,⟨_,e,a',hq,hl⟩,ho,hz,rZ,hs,g1,g3,g4,g5,rV,nT,jK⟩:=Yv nS S Xu hm (up:=[]) (gup:=[]) (base:=cs) rfl yI hf .nil (WN.of h.wr) (Same.refl w) h.nb hB h.g0 h.leavers h.past h.foot;refine⟨eH,Az,lV,sl',t',q',ρ2,⟨N,hr⟩,hz,g4,⟨e,a',qW _ _ _ _ hs hq,WV ho hl⟩,⟨rZ,rV,nT,jK,?_,λc hc hb=>(h.cs c hc hb).mono g4,WR.self S g3 hs lV.drawn,?_⟩⟩
 ·intro _;cases ho<;>exact g1
 ·exact g5
theorem Co.code (nS:X.P'=X.P) (S:X.Set Fb true (λ_=>false)) {ρ:Rel} {gs:Array al} {b:ak} {a:Act} {c:Code} {k:List Item} {cs:List ak} {w:ae} {sl:Option (Nat×Nat)} {t:br} {q:Nat->Nat} {Q:Exit->Act->ae->Prop}
  (h:Co X Fb bl SB ρ gs (b.at a (.code c::k)) cs w t q) (fZ:bl b.fn=false) (hc:codeOk X.P X.P Fb true c=true) (qO:Plain k Q) (qW:∀e a w wc,Same w wc->Q e a w->Q e a wc)
  (hp:∀τ,Agree w τ->c.wp X.P Q a (re w τ)):
  Comes X Fb bl SB ρ gs w sl t cs (λdY w'=>∃e a',Q e a' w'/\zQ b k e a' dY):=by
 have hf:FR X Fb true ρ (b.at a (.code c::st k)) (b.at a (.code c::st k)):=KR (f:=b.at a []) (h.fr fZ) (.cons (.code (by rw[nS];exact hc)) (IsR.st X Fb true ρ k));have hB:Bot [b.at a (.code c::st k)]:=by
  intro f hf;simp at hf;subst hf;rfl
 have hinv:Inv X Fb true (b.at a (.code c::st k)) [c0] w:=⟨ρ,_,[],[],w,rfl,hf,.nil,h.wr,h.nb,hB⟩
 have CF:Plain (st k) Q:=λe a w hq=>by
  have:=qO e a w hq;cases e with
  |exit id=>obtain⟨k',e⟩:=this;exact⟨st k',by rw[I8,e];rfl⟩
  |_=>exact this
 have hm:=LZ S hinv CF qW (b:=b) (k:=st k) (λτ ha=>hp τ ha b (st k) [c0]);exact h.carry nS S (fr:=b.at a (.code c::st k)) (.bot (f:=b.at a []) (.code (.code c) [])) hf rfl qW hm
theorem WQ {P:aK} {Q:ak->List ak->ae->Prop} {jk:ak} (h:lH P Q fr cs w) (hq:¬Q fr cs w) (hs:aT P true (G fr cs) w=.go (G jk cs) w #[]):lH P Q jk cs w:=by
 cases h with
 |done h=>exact absurd h hq
 |step nf nc nw ne h1 h2=>
  have e:aT P true (G fr cs) w=.go (G (nf w.tape) (nc w.tape)) (nw w.tape) (ne w.tape):=h1 w.tape (λ_ _ _=>rfl);rw[hs]at e;injection e with e1 e2 _;injection e1 with e1 e3;have:=h2 w.tape (λ_ _ _=>rfl);rw[<-e1,<-e2,<-e3]at this;exact this
theorem Co.op (nS:X.P'=X.P) (S:X.Set Fb true (λ_=>false)) {ρ:Rel} {gs:Array al} {b:ak} {a:Act} {ops:Array Oper} {i:Nat} {td:List Nat} {o:Oper} {k:List Item} {cs:List ak} {w:ae} {sl:Option (Nat×Nat)} {t:br} {q:Nat->Nat} {Q:Act->ae->Prop}
  (h:Co X Fb bl SB ρ gs (b.at a (.inRegion ops (i::td)::k)) cs w t q) (fZ:bl b.fn=false) (ho:ops[i]?=some o) (fu:jL X.P X.P Fb true (Sim.bare o)=true) (dQ:aa o (ax ops a.tmps)=true) (qW:∀a w wc,Same w wc->Q a w->Q a wc) {id:Nat}
  (hp:∀τ,Agree w τ->(Code.region id #[Sim.bare o] false).wp X.P (λe a' w'=>e=.normal/\Q a' w') a (re w τ)):
  Comes X Fb bl SB ρ gs w sl t cs (λdY w'=>∃a',Q a' w'/\dY=b.at a' (.inRegion ops td::k)):=by
 let K:List Item:=.inRegion ops td::k
 have Og:jL X.P X.P' Fb true (Sim.bare o)=true:=by rw[nS];exact fu
 have fE:(#[Sim.bare o]:Array Oper).toList.all (jL X.P X.P' Fb true)=true:=by simp[Og]
 have hf0:FR X Fb true ρ (b.at a (.code (.region id #[Sim.bare o] false)::st K)) (b.at a (.code (.region id #[Sim.bare o] false)::st K)):=KR (f:=b.at a []) (h.fr fZ) (.cons (.code fE) (IsR.st X Fb true ρ K));have fD:FR X Fb true ρ (b.at a (.inRegion #[Sim.bare o] [0]::st K)) (b.at a (.inRegion #[Sim.bare o] [0]::st K)):=KR (f:=b.at a []) (h.fr fZ) (.cons (.inRegion [0] fE) (IsR.st X Fb true ρ K));have hB:Bot [b.at a (.code (.region id #[Sim.bare o] false)::st K)]:=by
  intro f hf;simp at hf;subst hf;rfl
 let Q':Exit->Act->ae->Prop:=λe a' w'=>e=.normal/\Q a' w'
 have Uz:∀e a w wc,Same w wc->Q' e a w->Q' e a wc:=λe a w wc hs h=>⟨h.1,qW _ _ _ hs h.2⟩
 have CF:Plain (st K) Q':=by rintro e a w ⟨rfl,_⟩;trivial
 have hinv:Inv X Fb true (b.at a (.code (.region id #[Sim.bare o] false)::st K)) [c0] w:=⟨ρ,_,[],[],w,rfl,hf0,.nil,h.wr,h.nb,hB⟩
 have hm:=LZ S hinv CF Uz (b:=b) (k:=st K) (λτ ha=>hp τ ha b (st K) [c0]);have DX:lH X.P (Tgt b (st K) Q') (b.at a (.inRegion #[Sim.bare o] [0]::st K)) [c0] w:=by
  refine WQ hm ?_ rfl;rintro⟨_,e,a',⟨rfl,_⟩,hl⟩;have:=congrArg Frame.todo (show b.at a (.code (.region id #[Sim.bare o] false)::st K)=b.at a' (st K)from hl);have h1:=congrArg dn this;simp[Frame.at]at h1
 obtain⟨eH,dY,w',sl',t',q',ρ',h1,h2,h3,⟨e,a',⟨rfl,hq⟩,hl⟩,h4⟩:=h.carry nS S (k:=K) (sl:=sl) (fr:=b.at a (.inRegion #[Sim.bare o] [0]::st K)) (.bot (f:=b.at a []) (.op rfl ho dQ)) fD rfl Uz DX;exact⟨eH,dY,w',sl',t',q',ρ',h1,h2,h3,⟨a',hq,hl⟩,h4⟩
inductive Sil (P:aK):ak->List ak->ak->List ak->Prop
 |refl (fr:ak) (cs:List ak):Sil P fr cs fr cs
 |step {fr jk gV:ak} {cs dX AA:List ak}:(∀w,aT P true (G fr cs) w=.go (G jk dX) w #[])->Sil P jk dX gV AA->Sil P fr cs gV AA
theorem Sil.runs {P:aK} {dY:ak} {fI:List ak} (hs:Sil P fr cs dY fI):∀{gs:Array al} {w:ae} {sl:Option (Nat×Nat)} {t:br} {q:Nat->Nat},gs[0]?=some (G fr cs)->bE P t gs q->vz SB w gs.size t->
  ∃(eH:Array al) (d:Nat) (sl':Option (Nat×Nat)) (t':br) (q':Nat->Nat),Runs P gs w sl t eH (w.at d) sl' t'/\eH.size=gs.size/\eH[0]?=some (G dY fI)/\bE P t' eH q'/\vz SB (w.at d) eH.size t':=by
 induction hs with
 |refl fr cs=>exact λ{gs w sl t q} h0 hL hP=>⟨gs,w.drawn,sl,t,q,⟨0,rfl⟩,rfl,h0,hL,hP⟩
 |step h1 _ ih=>
  intro gs w sl t q h0 hL hP;obtain⟨N,jV,a1,d,w1,es,iN,t1,q1,hr,hgo,hz,nI,tC,tu,_⟩:=BS (P:=P) (SB:=SB) (sl:=sl) h0 rfl hL hP λd=>⟨_,_,_,h1 _,jm _,by simp⟩
  rw[h1]at hgo;injection hgo with e1 e2 e3;subst e1;subst e2;obtain⟨qX,d2,p9,t2,q2,yJ,qK,h02,hL2,hP2⟩:=ih (sl:=iN) nI tC tu;exact⟨qX,d2,p9,t2,q2,Runs.trans ⟨N,hr⟩ yJ,qK.trans hz,h02,hL2,hP2⟩
theorem Co.sil {dY:ak} {fI:List ak} (h:Co X Fb bl SB ρ gs fr cs w t q) (hs:Sil X.P fr cs dY fI)
  (hf:bl dY.fn=false->FR X Fb true ρ (wt dY []) (wt dY [])) (hc:∀c∈fI,bl c.fn=false->FR X Fb true ρ (wt c []) (wt c [])):
  ∃(eH:Array al) (d:Nat) (sl':Option (Nat×Nat)) (t':br) (q':Nat->Nat),Runs X.P gs w sl t eH (w.at d) sl' t'/\eH.size=gs.size/\Co X Fb bl SB ρ eH dY fI (w.at d) t' q':=by
 obtain⟨eH,d,sl',t',q',h1,h2,h3,h4,h5⟩:=hs.runs (SB:=SB) (sl:=sl) h.g0 h.leavers h.past;exact⟨eH,d,sl',t',q',h1,h2,⟨h3,h4,h5,⟨h.foot.apart,h.foot.low,h.foot.own,h.foot.foot⟩,hf,hc,⟨h.wr.fn,h.wr.inj,h.wr.heap,λ_ _=>rfl,h.wr.sh⟩,h.nb⟩⟩
end
def fbL:List Nat:=[3,5,6,7,8,9,10,12,13,14,15,16,17,18,19,20,21,22,26,28,29,30,31,32,33,34,35,36,37,38,52,53,59,60,61,62,63,64,65,66,67,68,69,70,71,76,77,78,80,81,82,83,84,85,86,87,88,89,90,91,92,93,94,95,96,97,98,99,100,101,102,103]
def TQ:List Nat:=[26,52,53,76,77,78,83,84,85,86,87,88,89,90,91,92,93,94,95,96,97,98,99,100,101,102,103]
def fb (f:aC):Bool:=fbL.contains f
def fbP (f:aC):Bool:=TQ.contains f
noncomputable def okf (P:aK) (b:aC->Bool) (wr:Bool) (f:Nat):Bool:=match P.funcs[f]? with
 |some fn=>match fn.body with
  |some c=>codeOk P P b wr c&&!(fn.name== "runtime.NumGoroutine")
  |none=>false
 |none=>false
theorem H7 {P:aK} {b:aC->Bool} {l:List Nat} {wr:Bool} (h:l.all (okf P b wr)=true) (f:aC) (hf:l.contains f=true):
  ∃fn c,P.funcs[f]?=some fn/\fn.body=some c/\codeOk P P b wr c=true/\(fn.name== "runtime.NumGoroutine")=false:=by
 rw[bw]at h;have:=h f (List.contains_iff_mem.1 hf);unfold okf at this;cases h1:P.funcs[f]? with
 |none=>rw[h1]at this;cases this
 |some fn=>
  rw[h1]at this;cases h2:fn.body with
  |none=>simp only[h2]at this;cases this
  |some c=>
   simp only[h2,aP,Bool.not_eq_true']at this;exact⟨fn,c,rfl,h2,this.1,this.2⟩
theorem PK:fbL.all (okf prog fb true)=true:=by kernel_rfl
theorem Qg:TQ.all (okf prog fbP false)=true:=by kernel_rfl
def blG (f:aC):Bool:=[].contains f
noncomputable def XG:Cx:=⟨prog,prog,λf=>fb f=true,λc=>codeOk prog prog fb true c=true,λ_=>False⟩
noncomputable def XW (Sh:Nat->Prop):Cx:=⟨prog,prog,λf=>fbP f=true,λc=>codeOk prog prog fbP false c=true,Sh⟩
theorem RB:prog.globals.size=0:=by kernel_rfl
theorem okXG:XG.Ok fb:=⟨rfl,λ_ h=>h,RB,λ_ _ _=>rfl,λ_ _ _=>rfl,λf hf=>by
 obtain⟨fn,c,h1,h2,_,h4⟩:=H7 PK f hf
 exact⟨fn,fn,h1,h1,by rw[h2];rfl,by rw[h2];rfl,h4,h4⟩⟩
theorem Mt:XG.Set fb true (λ_=>false):=⟨okXG,λ_=>Iff.rfl,λ_ _ h=>h,λf hf _=>by
 obtain⟨fn,c,h1,h2,h3,_⟩:=H7 PK f hf
 exact⟨fn,c,h1,h1,h2,h3⟩⟩
theorem okXW (Sh:Nat->Prop):(XW Sh).Ok fbP:=⟨rfl,λ_ h=>h,RB,λ_ _ _=>rfl,λ_ _ _=>rfl,λf hf=>by
 obtain⟨fn,c,h1,h2,_,h4⟩:=H7 Qg f hf
 exact⟨fn,fn,h1,h1,by rw[h2];rfl,by rw[h2];rfl,h4,h4⟩⟩
theorem jix (Sh:Nat->Prop):(XW Sh).Set fbP false (λ_=>false):=⟨okXW Sh,λ_=>Iff.rfl,(λh=>by cases h),λf hf _=>by
 obtain⟨fn,c,h1,h2,h3,_⟩:=H7 Qg f hf
 exact⟨fn,c,h1,h1,h2,h3⟩⟩
structure FOk (F O:Blocks) (w:ae):Prop where
 low:∀b,F b->b<w.heap.size
 own:∀b,O b->F b
theorem FOk.ext (h:FOk F O w) (e:Ext F w w1):FOk F O w1:=⟨λb hb=>xll (h.low b hb) e.size,h.own⟩
theorem FOk.quiet (h:FOk F O w) (d:Nat) {es:Array Event} (he:∀e∈es,EvF F O e):sS F O w F O {w with drawn:=w.drawn+d} es:=
 ⟨λ_ h=>h,λ_ h=>h,λ_ h=>.inl h,λ_ h=>.inl h,h.own,λ_ _ _=>rfl,jm _,h.low,⟨d,rfl⟩,rfl,rfl,rfl,he,id⟩
section
variable {P:aK} {main:Bool} {Stop:Blocks->Blocks->al->ae->Prop} {F O:Blocks} {g g':al} {w:ae}
theorem WG.ctl (hr:g.status=.running) (hF:FOk F O w) (hs:∀w1,aT P main g w1=.go g' w1 #[]) (k:WG P main Stop F O g' w):WG P main Stop F O g w:=
 WG.step hr λw1 e=>⟨F,O,g',w1,#[],hs w1,(hF.ext e).quiet 0 (by simp),k.ext e⟩
theorem WG.quiet (hr:g.status=.running) (hF:FOk F O w) (hs:∀w1,Ext F w w1->∃g' d es,aT P main g w1=.go g' {w1 with drawn:=w1.drawn+d} es/\(∀e∈es,EvF F O e)/\WG P main Stop F O g' {w1 with drawn:=w1.drawn+d}):WG P main Stop F O g w:=
 WG.step hr λw1 e=>by
  obtain⟨g',d,es,h1,h2,h3⟩:=hs w1 e;exact⟨F,O,g',_,es,h1,(hF.ext e).quiet d h2,h3⟩
variable {b:ak} {a:Act} {k:List Item} {cs:List ak} {ops:Array Oper} {i:Nat} {rest:List Nat} {o:Oper}
theorem WG.value (v:ag) (hF:FOk F O w) (ho:ops[i]?=some o) (hw:aa o (ax ops a.tmps)=true) (hk:b.kind≠.early)
  (hr:∀w1,Ext F w w1->(ai a.eval o).run P w1=.ok (.value v) w1/\∀e∈(ai a.eval o).events P w1 #[],EvF F O e)
  (n:WG P main Stop F O (G (b.at (a.put o.dst v) (.inRegion ops rest::k)) cs) w):WG P main Stop F O (G (b.at a (.inRegion ops (i::rest)::k)) cs) w:=
 WG.quiet rfl hF λw1 e=>⟨_,0,_,aU ho hw hk (hr w1 e).1,λe' he=>(hr w1 e).2 e' (bj he),n.ext e⟩
theorem DK {F O:Blocks} (h:F ad.block):EvF F O ⟨.cell ad,false,false⟩:=⟨rfl,h,λh=>by cases h⟩
end
noncomputable def zh:Array Oper:=match Try.f24.body with
 |some (.seq _ (.region _ ops _))=>ops
 |_=>#[]
theorem yw {a:Addr} (h:w1.heap[a.block]?=w.heap[a.block]?):w1.cell? a=w.cell? a:=by unfold aE;rw[h]
structure Bq (F:Blocks) (kb cb fb tb cl i:Nat) (dp s t:ag) (w:ae):Prop where
 k:w.cell? ⟨kb,0,none⟩=some (.int .i64 i)
 c:w.cell? ⟨cb,0,none⟩=some (.pointer (some ⟨cl,0,none⟩))
 f:w.cell? ⟨fb,0,none⟩=some s
 t:w.cell? ⟨tb,0,none⟩=some t
 d:w.cell? ⟨cl,1+i*3+1,none⟩=some dp
 Fk:F kb
 Fc:F cb
 Ff:F fb
 Ft:F tb
 Fd:F cl
theorem Bq.ext {fb:Nat} {dp s t:ag} (h:Bq F kb cb fb tb cl i dp s t w) (e:Ext F w w1):Bq F kb cb fb tb cl i dp s t w1:=
 ⟨(yw (e.keep _ h.Fk)).trans h.k,(yw (e.keep _ h.Fc)).trans h.c,(yw (e.keep _ h.Ff)).trans h.f,(yw (e.keep _ h.Ft)).trans h.t,(yw (e.keep _ h.Fd)).trans h.d,h.Fk,h.Fc,h.Ff,h.Ft,h.Fd⟩
section
variable {kb cb fb tb cl i:Nat} {dp s t:ag}
def lQ (cl i:Nat) (dp s t:ag):Nat->ag
 |0=>.int .i64 i
 |1=>.pointer (some ⟨cl,0,none⟩)
 |2=>.int .i64 i
 |3=>.pointer (some ⟨cl,0,none⟩)
 |4=>.pointer (some ⟨cl,1,none⟩)
 |5=>.pointer (some ⟨cl,1+i*3,none⟩)
 |6=>.pointer (some ⟨cl,1+i*3+1,none⟩)
 |7=>dp
 |8=>s
 |_=>t
structure WkT (kb cb fb tb cl i C Wg:Nat) (dp s t:ag) (listed:Array Bool) (T:Array ag):Prop where
 size:T.size=18
 t1:T.getD 1 ac=.pointer (some ⟨cb,0,none⟩)
 t2:T.getD 2 ac=.pointer (some ⟨kb,0,none⟩)
 t3:T.getD 3 ac=.pointer (some ⟨fb,0,none⟩)
 t4:T.getD 4 ac=.pointer (some ⟨tb,0,none⟩)
 t5:T.getD 5 ac=.pointer (some ⟨C,0,none⟩)
 val:∀j,j<10->listed.getD j false=true->T.getD (6+j) ac=lQ cl i dp s t j
variable {C Wg:Nat} {listed:Array Bool} {T:Array ag} {F O:Blocks} {w:ae} {ds:List cH}
theorem xh (h:j∈au .any zh listed) (ho:zh[j]?=some o) (q:Nat) (e:Edge) (he:o.after[q]?=some e) (hb:Region.binds .any e=true):listed.getD e.on false=true:=by
 obtain⟨_,o',yL,fE⟩:=bz.1 h;rw[ho]at yL;cases yL;exact fE e (Array.mem_of_getElem? he) hb
theorem PY (hi:i<4) (hT:WkT kb cb fb tb cl i C Wg dp s t listed T) (hw:Bq F kb cb fb tb cl i dp s t w) (hj:j<10) (hr:j∈au .any zh listed):
  ∃o,zh[j]?=some o/\o.guard=none/\o.dst=some (6+j)/\(ai (ah T ds).eval o).run prog w=.ok (.value (lQ cl i dp s t j)) w/\∀e∈(ai (ah T ds).eval o).events prog w #[],EvF F O e:=by
 have e1:(ah T ds).eval (.tmp 1)=.pointer (some ⟨cb,0,none⟩):=hT.t1;have e2:(ah T ds).eval (.tmp 2)=.pointer (some ⟨kb,0,none⟩):=hT.t2;have e3:(ah T ds).eval (.tmp 3)=.pointer (some ⟨fb,0,none⟩):=hT.t3;have e4:(ah T ds).eval (.tmp 4)=.pointer (some ⟨tb,0,none⟩):=hT.t4;have dep:∀j',j'<10->listed.getD j' false=true->(ah T ds).eval (.tmp (6+j'))=lQ cl i dp s t j':=λj' h1 h2=>hT.val j' h1 h2;have Gj:((i:Int)<4):=by omega
 have k1:=hw.k;have k2:=hw.c;have k3:=hw.f;have k4:=hw.t;have k5:=hw.d;generalize (ah T ds).eval=e at*;have af:=λo (ho:zh[j]?=some o)=>xh (listed:=listed) hr ho;clear hr;match j,hj with
 |0,_=>
  obtain⟨o,ho,dU,hd,hg⟩:∃o,zh[0]?=some o/\o.op=.load 3 (.tmp 2)/\o.dst=some (6+0)/\o.guard=none:=⟨_,rfl,rfl,rfl,rfl⟩
  refine⟨o,ho,hg,hd,?_,?_⟩
  ·unfold ai;simp[go_sem,dU,lQ,e2,k1]
  ·unfold ai;simp[go_sem,dU,e2,k1];exact DK hw.Fk
 |1,_=>
  obtain⟨o,ho,dU,hd,hg⟩:∃o,zh[1]?=some o/\o.op=.load 27 (.tmp 1)/\o.dst=some (6+1)/\o.guard=none:=⟨_,rfl,rfl,rfl,rfl⟩
  refine⟨o,ho,hg,hd,?_,?_⟩
  ·unfold ai;simp[go_sem,dU,lQ,e1,k2]
  ·unfold ai;simp[go_sem,dU,e1,k2];exact DK hw.Fc
 |2,_=>
  obtain⟨o,ho,dU,hd,hg⟩:∃o,zh[2]?=some o/\o.op=.load 3 (.tmp 2)/\o.dst=some (6+2)/\o.guard=none:=⟨_,rfl,rfl,rfl,rfl⟩
  refine⟨o,ho,hg,hd,?_,?_⟩
  ·unfold ai;simp[go_sem,dU,lQ,e2,k1]
  ·unfold ai;simp[go_sem,dU,e2,k1];exact DK hw.Fk
 |3,_=>
  have d1:=dep 1 (by omega) (af _ rfl 0 ⟨1,.data⟩ rfl rfl);simp only[lQ,aI]at d1;obtain⟨o,ho,dU,hd,hg⟩:∃o,zh[3]?=some o/\o.op=.nilCheck (.tmp 7)/\o.dst=some (6+3)/\o.guard=none:=⟨_,rfl,rfl,rfl,rfl⟩
  refine⟨o,ho,hg,hd,?_,?_⟩
  ·unfold ai;simp[go_sem,dU,lQ,d1]
  ·unfold ai;simp[go_sem,dU,d1]
 |4,_=>
  have d3:=dep 3 (by omega) (af _ rfl 0 ⟨3,.data⟩ rfl rfl);simp only[lQ,aI]at d3;obtain⟨o,ho,dU,hd,hg⟩:∃o,zh[4]?=some o/\o.op=.fieldAddr 60 (.tmp 9) 1/\o.dst=some (6+4)/\o.guard=none:=⟨_,rfl,rfl,rfl,rfl⟩
  refine⟨o,ho,hg,hd,?_,?_⟩
  ·unfold ai;simp[go_sem,dU,lQ,d3]
  ·unfold ai;simp[go_sem,dU,d3]
 |5,_=>
  have d4:=dep 4 (by omega) (af _ rfl 0 ⟨4,.data⟩ rfl rfl);simp only[lQ,aI]at d4;have d2:=dep 2 (by omega) (af _ rfl 1 ⟨2,.data⟩ rfl rfl);simp only[lQ,aI]at d2;obtain⟨o,ho,dU,hd,hg⟩:∃o,zh[5]?=some o/\o.op=.indexAddr 58 (.tmp 10) (.tmp 8)/\o.dst=some (6+5)/\o.guard=none:=⟨_,rfl,rfl,rfl,rfl⟩
  refine⟨o,ho,hg,hd,?_,?_⟩
  ·unfold ai;simp[go_sem,dU,lQ,d4,d2,Gj]
  ·unfold ai;simp[go_sem,dU,d4,d2,Gj,Instr.indexAt];intro e h4;omega
 |6,_=>
  have d5:=dep 5 (by omega) (af _ rfl 0 ⟨5,.data⟩ rfl rfl);simp only[lQ,aI]at d5;obtain⟨o,ho,dU,hd,hg⟩:∃o,zh[6]?=some o/\o.op=.fieldAddr 57 (.tmp 11) 1/\o.dst=some (6+6)/\o.guard=none:=⟨_,rfl,rfl,rfl,rfl⟩
  refine⟨o,ho,hg,hd,?_,?_⟩
  ·unfold ai;simp[go_sem,dU,lQ,d5]
  ·unfold ai;simp[go_sem,dU,d5]
 |7,_=>
  have d6:=dep 6 (by omega) (af _ rfl 0 ⟨6,.data⟩ rfl rfl);simp only[lQ,aI]at d6;obtain⟨o,ho,dU,hd,hg⟩:∃o,zh[7]?=some o/\o.op=.load 54 (.tmp 12)/\o.dst=some (6+7)/\o.guard=none:=⟨_,rfl,rfl,rfl,rfl⟩
  refine⟨o,ho,hg,hd,?_,?_⟩
  ·unfold ai;simp[go_sem,dU,lQ,d6,k5]
  ·unfold ai;simp[go_sem,dU,d6,k5];exact DK hw.Fd
 |8,_=>
  obtain⟨o,ho,dU,hd,hg⟩:∃o,zh[8]?=some o/\o.op=.load 9 (.tmp 3)/\o.dst=some (6+8)/\o.guard=none:=⟨_,rfl,rfl,rfl,rfl⟩
  refine⟨o,ho,hg,hd,?_,?_⟩
  ·unfold ai;simp[go_sem,dU,lQ,e3,k3]
  ·unfold ai;simp[go_sem,dU,e3,k3];exact DK hw.Ff
 |9,_=>
  obtain⟨o,ho,dU,hd,hg⟩:∃o,zh[9]?=some o/\o.op=.load 9 (.tmp 4)/\o.dst=some (6+9)/\o.guard=none:=⟨_,rfl,rfl,rfl,rfl⟩
  refine⟨o,ho,hg,hd,?_,?_⟩
  ·unfold ai;simp[go_sem,dU,lQ,e4,k4]
  ·unfold ai;simp[go_sem,dU,e4,k4];exact DK hw.Ft
 |_+10,h=>omega
end
theorem LQ (p p':Nat->Bool) (i:Nat) (h:∀j,j≠i->p' j=p j) (hp:p i=true) (F7:p' i=false):∀l:List Nat,l.Nodup->i∈l->l.countP p'+1=l.countP p
 |[],_,hi=>by cases hi
 |x::l,hn,hi=>by
  rw[List.nodup_cons]at hn;by_cases hx:x=i
  ·subst hx;have e:l.countP p'=l.countP p:=List.countP_congr λj hj=>by rw[h j (λe=>hn.1 (e▸hj))]
   simp[List.countP_cons,hp,F7,e]
  ·have:=LQ p p' i h hp F7 l hn.2 ((bd.1 hi).resolve_left (λe=>hx e.symm));simp only[List.countP_cons,h x hx];omega
def cnt (listed:Array Bool):Nat:=(cJ 13).countP λj=>!listed.getD j true
theorem Qm {listed:Array Bool} (hi:i<13) (hs:listed.size=13) (h:listed.getD i true=false):cnt (listed.setIfInBounds i true)+1=cnt listed:=by
 refine LQ _ _ i (λj hj=>?_) (by simpa using h) ?_ _ List.nodup_range (cK.2 hi)
 ·rw[bL true (aQ hj)]
 ·have:i<listed.size:=by omega
  simp[this]
theorem WW:(cJ 13).all (λn=>match zh[n]? with|some o=>o.after.all λe=>decide (e.on<n)|none=>false)=true:=by kernel_rfl
theorem Lm:zh.size=13:=rfl
theorem XZ {listed:Array Bool} (hs:listed.size=13) (h:∃j,j<13/\listed.getD j true=false):au .any zh listed≠[]:=by
 have hb:=WW;rw[bw]at hb;have key:∀n,n<=13->(∀j,j<n->listed.getD j false=true)\/∃j,j∈au .any zh listed:=by
  intro n;induction n with
  |zero=>intro _;exact .inl λj hj=>absurd hj (Nat.not_lt_zero _)
  |succ n ih=>
   intro hn;rcases ih (by omega)with h1|h1
   ·have dW:n<listed.size:=by omega
    cases hv:listed.getD n false with
    |true=>
     refine .inl λj hj=>?_;rcases Nat.lt_or_ge j n with h2|h2
     ·exact h1 j h2
     ·obtain rfl:j=n:=by omega
      exact hv
    |false=>
     refine .inr ⟨n,bz.2 ⟨?_,?_⟩⟩
     ·simp[dW]at hv⊢;exact hv
     ·have:=hb n (cK.2 (by omega));cases ho:zh[n]? with
      |none=>rw[ho]at this;cases this
      |some o=>
       rw[ho]at this;refine⟨o,rfl,λe he _=>h1 _ ?_⟩;have:=(Array.all_eq_true_iff_forall_mem.1 this) e he;simpa using this
   ·exact .inr h1
 obtain⟨j,hj,M8⟩:=h;rcases key 13 (jm _)with h1|⟨j',h1⟩
 ·have:=h1 j hj;have dW:j<listed.size:=by omega
  simp[dW]at this M8;rw[this]at M8;cases M8
 ·exact List.ne_nil_of_mem h1
theorem go_open {listed:Array Bool} {fuel t:Nat} (h:au .any zh listed≠[]):∃i t',i∈au .any zh listed/\
  av .any zh (fuel+1) t listed []=i::av .any zh fuel t' (listed.setIfInBounds i true) []:=by
 have dW:t%(au .any zh listed).length<(au .any zh listed).length:=Nat.mod_lt _ (List.length_pos_iff.2 h);refine⟨(au .any zh listed)[t%(au .any zh listed).length],t/(au .any zh listed).length,List.getElem_mem _,?_⟩;simp only[av];change (match(au .any zh listed)[t%(au .any zh listed).length]? with
   |some i=>av .any zh fuel (t/(au .any zh listed).length) (listed.setIfInBounds i true) [i]
   |none=>[].reverse)=_
 rw[List.getElem?_eq_getElem dW];simp only[];rw[linearise_go_acc];rfl
theorem WG.keep {P:aK} {main:Bool} {F0:Blocks}:∀{F O:Blocks} {g:al} {w:ae},WG P main Stop F O g w->(∀b,F0 b->F b/\¬O b/\b<w.heap.size)->
  ∀{w0:ae},Ext F0 w0 w->WG P main (λF O g w1=>Stop F O g w1/\Ext F0 w0 w1/\∀b,F0 b->F b/\¬O b/\b<w1.heap.size) F O g w:=by
 rintro F O g w ⟨r,h⟩;induction r generalizing F O g w with
 |leaf=>
  intro h0 w0 e0;exact WG.stop λw1 e=>⟨h w1 e,e0.trans (e.sub λb hb=>(h0 b hb).1),λb hb=>⟨(h0 b hb).1,(h0 b hb).2.1,xll (h0 b hb).2.2 e.size⟩⟩
 |node f ih=>
  intro h0 w0 e0;refine WG.step h.1 λw1 e=>?_;obtain⟨F',O',g',w',es,h1,h2,h3⟩:=h.2 w1 e;have e1:Ext F0 w0 w1:=e0.trans (e.sub λb hb=>(h0 b hb).1);have dW:∀b,F0 b->b<w1.heap.size:=λb hb=>xll (h0 b hb).2.2 e.size;exact⟨F',O',g',w',es,h1,h2,ih w1 h3 (λb hb=>⟨h2.sub b (h0 b hb).1,λho=>(h2.Ba b ho).elim (h0 b hb).2.1 (λhle=>Nat.lt_irrefl _ (xll (dW b hb) hle)),xll (dW b hb) h2.size⟩)
   (e1.trans ⟨h2.size,λb hb=>h2.keep b (dW b hb) (h0 b hb).2.1⟩)⟩
theorem ze {T:Array ag} {v:ag} (h:j<T.size):(T.setIfInBounds j v).getD j ac=v:=by simp[h]
theorem ql {T:Array ag} {j':Nat} {v:ag} (h:j≠j'):(T.setIfInBounds j v).getD j' ac=T.getD j' ac:=by
 simp[xne h]
theorem ZC {listed:Array Bool} {t:Nat} (h:∀j,j∈au .any zh listed->False):∀{fuel:Nat},av .any zh fuel t listed []=[]
 |0=>rfl
 |fuel+1=>by
  have hr:au .any zh listed=[]:=List.eq_nil_iff_forall_not_mem.2 h;simp only[av];change (match(au .any zh listed)[t%(au .any zh listed).length]? with
    |some i=>av .any zh fuel (t/(au .any zh listed).length) (listed.setIfInBounds i true) [i]
    |none=>[].reverse)=_
  rw[hr];rfl
def AtRet (P:aK) (R:Blocks->ag->ae->Prop) (base:List ak) (F O:Blocks) (g:al) (w:ae):Prop:=
 FOk F O w/\∃v,R F v w/\g.status=.running/\∀c cs,base=c::cs->∀w1,aT P false g w1=.go (G (c.finish v) cs) w1 #[]
section
variable {kb cb fb tb cl i C Wg:Nat} {dp s t:ag} {listed:Array Bool} {T:Array ag} {ds:List cH}
theorem WkT.set (hT:WkT kb cb fb tb cl i C Wg dp s t listed T) (v:ag) (hv:j<10->v=lQ cl i dp s t j) (hj:6+j<18) (hl:listed.size=13):WkT kb cb fb tb cl i C Wg dp s t (listed.setIfInBounds j true) (T.setIfInBounds (6+j) v):=by
 refine⟨by simpa using hT.size,?_,?_,?_,?_,?_,λj' Gi h=>?_⟩
 ·rw[ql (by omega)];exact hT.t1
 ·rw[ql (by omega)];exact hT.t2
 ·rw[ql (by omega)];exact hT.t3
 ·rw[ql (by omega)];exact hT.t4
 ·rw[ql (by omega)];exact hT.t5
 ·by_cases e:j=j'
  ·subst e;rw[ze (by rw[hT.size];omega)];exact hv Gi
  ·rw[ql (by omega)];rw[bL false e]at h;exact hT.val j' Gi h
variable {qw:Blocks->ag->ae->Prop} {F0:Blocks} {w0:ae} {b:ak} {k:List Item} {cs:List ak} {Stop:Blocks->Blocks->al->ae->Prop}
theorem wReg (hi:i<4) (hk:b.kind≠.early) (qx:∀F v w w1,qw F v w->Ext F w w1->qw F v w1)
  (lm:∀(c:ak) (w1:ae),Ext F0 w0 w1->WG prog false (AtRet prog qw (c::cs)) F0 (λ_=>False) (G (aq prog 26 #[dp,s,t] .normal) (c::cs)) w1)
  (eu:∀F O w T v,FOk F O w->(∀b,F0 b->F b)->qw F v w->T.getD 16 ac=v->T.getD 17 ac=.pointer (some ⟨C,i,none⟩)->T.size=18->Stop F O (G (b.at ⟨T,ds⟩ (.inRegion zh [12]::k)) cs) w):
  ∀(fuel t':Nat) (listed:Array Bool) (T:Array ag) (F O:Blocks) (w:ae),listed.size=13->cnt listed=fuel->WkT kb cb fb tb cl i C Wg dp s t listed T->Bq F0 kb cb fb tb cl i dp s t w->FOk F O w->(∀b,F0 b->F b)->
   listed.getD 12 true=false->(listed.getD 10 false=true->qw F (T.getD 16 ac) w)->(listed.getD 10 false=false->F=F0/\O=(λ_=>False)/\Ext F0 w0 w)->(listed.getD 11 false=true->T.getD 17 ac=.pointer (some ⟨C,i,none⟩))->
   WG prog false Stop F O (G (b.at ⟨T,ds⟩ (.inRegion zh (av .any zh fuel t' listed [])::k)) cs) w:=by
 intro fuel;induction fuel with
 |zero=>
  intro t' listed T F O w eT hc _ _ _ _ gU;exfalso;have:=Qm (i:=12) (by omega) eT gU;omega
 |succ fuel ih=>
  intro t' listed T F O w eT hc hT gQ hF iU gU ig TP Nw;obtain⟨j,t2,hj,e⟩:=go_open (fuel:=fuel) (t:=t') (XZ eT ⟨12,by omega,gU⟩);rw[e];have mP:listed.getD j true=false:=(bz.1 hj).1;have Mf:j<13:=by
   obtain⟨_,o,ho,_⟩:=bz.1 hj;have:=(yc ho).1;rwa [Lm]at this
  have gD:=Qm Mf eT mP;have tO:(listed.setIfInBounds j true).size=13:=by simpa using eT
  have eD:∀{n:Nat} {d:Bool},n≠j->(listed.setIfInBounds j true).getD n d=listed.getD n d:=λh=>bL _ (aQ h);rcases(by omega:j<10\/j=10\/j=11\/j=12)with h|rfl|rfl|rfl
  ·-- one of the first ten
   obtain⟨o,ho,hg,hd,hr,kF⟩:=PY (F:=F) (O:=O) (ds:=ds) hi hT (w:=w) ⟨gQ.k,gQ.c,gQ.f,gQ.t,gQ.d,iU _ gQ.Fk,iU _ gQ.Fc,iU _ gQ.Ff,iU _ gQ.Ft,iU _ gQ.Fd⟩ h hj;have dQ:aa o (ax zh (ah T ds).tmps)=true:=by unfold aa;rw[hg]
   refine WG.value (lQ cl i dp s t j) hF ho dQ hk (λw1 e1=>?_) ?_
   ·obtain⟨o',yL,_,_,fO,OC⟩:=PY (F:=F) (O:=O) (ds:=ds) hi hT (w:=w1) (Bq.ext ⟨gQ.k,gQ.c,gQ.f,gQ.t,gQ.d,iU _ gQ.Fk,iU _ gQ.Fc,iU _ gQ.Ff,iU _ gQ.Ft,iU _ gQ.Fd⟩ e1) h hj;rw[ho]at yL;cases yL;exact⟨fO,OC⟩
   ·rw[hd];refine ih t2 _ _ F O w tO (by omega) (hT.set _ (λ_=>rfl) (by omega) eT) gQ hF iU (by rw[eD (by omega)];exact gU) (λh1=>?_) (λh1=>?_) (λh1=>?_)
    ·rw[eD (by omega)]at h1;show qw F ((T.setIfInBounds (6+j) _).getD 16 ac) w;rw[ql (by omega)];exact ig h1
    ·rw[eD (by omega)]at h1;exact TP h1
    ·rw[eD (by omega)]at h1;show(T.setIfInBounds (6+j) _).getD 17 ac=_;rw[ql (by omega)];exact Nw h1
  ·-- the call
   have OP:listed.getD 10 false=false:=by
    have dW:10<listed.size:=by omega
    simp[dW]at mP⊢;exact mP
   obtain⟨rfl,rfl,e0⟩:=TP OP;obtain⟨o,ho,dU,hd,hg⟩:∃o,zh[10]?=some o/\o.op=.call {callee:=.value (.func 26),args:=#[.tmp 13,.tmp 14,.tmp 15],argTypes:=#[54,9,9]}/\o.dst=some 16/\o.guard=none:=⟨_,rfl,rfl,rfl,rfl⟩
   have a7:=hT.val 7 (by omega) (xh hj (o:=_) rfl 0 ⟨7,.data⟩ rfl rfl);have a8:=hT.val 8 (by omega) (xh hj (o:=_) rfl 1 ⟨8,.data⟩ rfl rfl);have a9:=hT.val 9 (by omega) (xh hj (o:=_) rfl 2 ⟨9,.data⟩ rfl rfl);have dQ:aa o (ax zh (ah T ds).tmps)=true:=by unfold aa;rw[hg]
   have ev:∀w1,(ai (ah T ds).eval o).run prog w1=.ok (.enter 26 #[dp,s,t]) w1/\(ai (ah T ds).eval o).events prog w1 #[]=#[]:=λw1=>by
    have b7:(ah T ds).eval (.tmp 13)=dp:=a7;have b8:(ah T ds).eval (.tmp 14)=s:=a8;have b9:(ah T ds).eval (.tmp 15)=t:=a9;generalize he:(ah T ds).eval=e at*;have bf:e (.func 26)=.func (.func 26) #[] #[]:=by rw[<-he];rfl
    unfold ai;constructor
    ·simp[go_sem,dU,b7,b8,b9,bf]
    ·simp[go_sem,dU,b7,b8,b9,bf];simp[cL,go_sem,func26,Try.f26]
   have mV:∀x,F x->F x/\¬(λ_=>False:Blocks) x/\x<w.heap.size:=λx hx=>⟨hx,λh=>h,hF.low x hx⟩
   refine WG.quiet rfl hF λw1 e1=>⟨_,0,_,bM ho dQ hk (ev w1).1,λe' he=>?_,?_⟩
   ·have:=bj he;rw[(ev w1).2]at this;simp at this
   refine WG.then (WG.keep (F0:=F) (lm _ w1 (e0.trans e1)) (λx hx=>⟨hx,λh=>h,xll (hF.low x hx) e1.size⟩) (Ext.refl F w1)) ?_;rintro F1 O1 g1 w2 ⟨⟨xC,v,hv,dZ,zG⟩,e2,jeg⟩;have Ox:=gQ.ext (e1.trans e2);refine WG.ctl dZ xC (zG _ _ rfl) ?_;rw[Frame.finish_at,ho];show WG _ _ _ _ _ (G (b.at ((ah T ds).put o.dst v) _) cs) w2;rw[hd];refine ih t2 _ _ F1 O1 w2 tO (by omega) (hT.set (j:=10) v (λh=>by omega) (by omega) eT) Ox xC (λx hx=>(jeg x hx).1) (by rw[eD (by omega)];exact gU) (λ_=>?_) (λh1=>?_) (λh1=>?_)
   ·show qw F1 ((T.setIfInBounds (6+10) v).getD 16 ac) w2;rw[ze (by rw[hT.size];omega)];exact hv
   ·have dW:10<listed.size:=by omega
    simp[dW]at h1
   ·rw[eD (by omega)]at h1;show(T.setIfInBounds (6+10) v).getD 17 ac=_;rw[ql (by omega)];exact Nw h1
  ·-- the index
   have a0:=hT.val 0 (by omega) (xh hj (o:=_) rfl 0 ⟨0,.data⟩ rfl rfl);have oV:=xh hj (o:=_) rfl 11 ⟨10,.phase⟩ rfl rfl;obtain⟨o,ho,dU,hd,hg⟩:∃o,zh[11]?=some o/\o.op=.indexAddr 75 (.tmp 5) (.tmp 6)/\o.dst=some 17/\o.guard=none:=⟨_,rfl,rfl,rfl,rfl⟩
   have dQ:aa o (ax zh (ah T ds).tmps)=true:=by unfold aa;rw[hg]
   have Gj:((i:Int)<4):=by omega
   refine WG.value (.pointer (some ⟨C,i,none⟩)) hF ho dQ hk (λw1 e1=>?_) ?_
   ·have b5:(ah T ds).eval (.tmp 5)=.pointer (some ⟨C,0,none⟩):=hT.t5;have b6:(ah T ds).eval (.tmp 6)=.int .i64 i:=a0;generalize he:(ah T ds).eval=e at*;unfold ai;constructor
    ·simp[go_sem,dU,b5,b6,Gj]
    ·simp[go_sem,dU,b5,b6,Gj,Instr.indexAt];intro e h4;omega
   ·rw[hd];refine ih t2 _ _ F O w tO (by omega) (hT.set (j:=11) _ (λh=>by omega) (by omega) eT) gQ hF iU (by rw[eD (by omega)];exact gU) (λh1=>?_) (λh1=>?_) (λ_=>?_)
    ·show qw F ((T.setIfInBounds (6+11) _).getD 16 ac) w;rw[ql (by omega)];exact ig oV
    ·rw[eD (by omega)]at h1;rw[oV]at h1;cases h1
    ·show(T.setIfInBounds (6+11) _).getD 17 ac=_;rw[ze (by rw[hT.size];omega)]
  ·-- the store
   have oV:=xh hj (o:=_) rfl 1 ⟨10,.data⟩ rfl rfl;have tK:=xh hj (o:=_) rfl 0 ⟨11,.data⟩ rfl rfl;have fE:∀j,j<12->listed.getD j false=true:=λj Ow=>by
    have ra:=λq e=>xh hj (o:=_) rfl q e;match j,Ow with
    |0,_=>exact ra 3 ⟨0,.phase⟩ rfl rfl
    |1,_=>exact ra 4 ⟨1,.phase⟩ rfl rfl
    |2,_=>exact ra 5 ⟨2,.phase⟩ rfl rfl
    |3,_=>exact ra 6 ⟨3,.phase⟩ rfl rfl
    |4,_=>exact ra 7 ⟨4,.phase⟩ rfl rfl
    |5,_=>exact ra 8 ⟨5,.phase⟩ rfl rfl
    |6,_=>exact ra 9 ⟨6,.phase⟩ rfl rfl
    |7,_=>exact ra 10 ⟨7,.phase⟩ rfl rfl
    |8,_=>exact ra 11 ⟨8,.phase⟩ rfl rfl
    |9,_=>exact ra 12 ⟨9,.phase⟩ rfl rfl
    |10,_=>exact oV
    |11,_=>exact tK
   have Oi:av .any zh fuel t2 (listed.setIfInBounds 12 true) []=[]:=ZC λj Gi=>by
    have h1:=(bz.1 Gi).1;have Vg:j<13:=by
     obtain⟨_,o,ho,_⟩:=bz.1 Gi;have:=(yc ho).1;rwa [Lm]at this
    by_cases UH:j=12
    ·subst UH;have dW:12<listed.size:=by omega
     simp[dW]at h1
    ·rw[bL true (aQ UH)]at h1;have h2:=fE j (by omega);have dW:j<listed.size:=by omega
     simp[dW]at h1 h2;rw[h1]at h2;cases h2
   rw[Oi];exact WG.stop λw1 e1=>eu F O w1 T _ (hF.ext e1) iU (qx _ _ _ _ (ig oV) e1) rfl (Nw tK) hT.size
end
end
section
open Go.Conc Go.ConcN Go.RowKit Go.Conc.Lib Go.ConcR.Gen Go.ConcN.Gen Go Sim
open Go.ConcR (KK wgBlock WgAt stA smA rd wr mk Payload Aside2 DC0 ofEvent_cell)
instance:Payload:=⟨75⟩
abbrev fW:aC:=24
def bW:ak:=baseD fW
noncomputable def tX:ak:={(default:ak)with fn:=prog.funcs.size,defers:=[],mode:=.panicking [goexitEntry]}
noncomputable def KA:Code:=Try.f24.body.getD .skip
theorem jgk:(prog.funcs[bW.fn]?).any (·.norace)=false:=by kernel_rfl
def xV (Wg cb kb fb tb C:Nat):cH:={target:=.fn (.func fW) #[.pointer (some ⟨Wg,0,none⟩),.pointer (some ⟨cb,0,none⟩),.pointer (some ⟨kb,0,none⟩),.pointer (some ⟨fb,0,none⟩),.pointer (some ⟨tb,0,none⟩),.pointer (some ⟨C,0,none⟩)],args:=#[]}
theorem ja2 (T:Array ag):QuitsD prog 2 0 (G {bW.at ⟨T,[]⟩ []with mode:=.returning} [tX]):=by
 refine QuitsD.ctl (g':=G tX []) rfl (λw=>?_) ?_
 ·simp[G,aT,unwind,doReturn,results,Frame.at,bW,baseD,tX,func24,Try.f24,seen,GStep.after,goexitEntry]
 refine QuitsD.ctl (g':={G tX []with status:=.finished}) rfl (λw=>?_) ⟨rfl,rfl⟩;simp[G,aT,unwind,tX,goexitEntry,Frame.catches];rfl
theorem X8 (Wg cb kb fb tb C:Nat) (w:ae):aT prog false (born prog (xV Wg cb kb fb tb C)) w=
  .go (G (bW.at ⟨#[.pointer (some ⟨Wg,0,none⟩),.pointer (some ⟨cb,0,none⟩),.pointer (some ⟨kb,0,none⟩),.pointer (some ⟨fb,0,none⟩),.pointer (some ⟨tb,0,none⟩),.pointer (some ⟨C,0,none⟩),ac,ac,ac,ac,ac,ac,ac,ac,ac,ac,ac,ac],[]⟩ [.code KA]) [tX]) w #[]:=by
 simp[born,xV,aT,unwind,callDeferred,invoke,cL,func24,Try.f24,seen,GStep.after,G,aq,Frame.at,bW,baseD,tX,KA]
section
variable {main:Bool} {b:ak} {a:Act} {kk:List Item} {cs:List ak} {w:ae} {ops:Array Oper} {i:Nat} {rest:List Nat} {o:Oper}
theorem YK {x y:bZ} (ho:ops[i]?=some o) (hw:aa o (ax ops a.tmps)=true) (hk:b.kind≠.early) (dU:o.op=.store 40 x y) {u:ag} (hx:a.eval x=.pointer (some ad)) (hy:a.eval y=.slice sa n c) (hc:w.cell? ad=some u) (hz:w.frozen? ad=false) (hq:(prog.funcs[b.fn]?).any (·.norace)=false):
  aT prog main (G (b.at a (.inRegion ops (i::rest)::kk)) cs) w=.go (G (b.at (a.put o.dst ac) (.inRegion ops rest::kk)) cs) (w.setCell ad (.slice sa n c)) #[⟨.cell ad,true,false⟩]:=by
 have hr:(ai a.eval o).run prog w=.ok .skip (w.setCell ad (.slice sa n c)):=by
  unfold ai;simp only[dU,hx,hy];simp[go_sem,stored,hc,hz]
 have he:(ai a.eval o).events prog w #[]=#[⟨.cell ad,true,false⟩]:=by
  unfold ai;simp only[dU,hx,hy];simp[go_sem,storedEv,hc,hz]
 rw[stepG_none ho hw hk hr];unfold listed;rw[he,seen_eq hq (by simp)]
end
section
variable {C n i:Nat} {w:ae}
theorem q1m (hp:PayAt C n w) (hj:i<n):∃u,w.cell? ⟨C,i,none⟩=some u/\w.frozen? ⟨C,i,none⟩=false:=by
 obtain⟨arr,h1,h2⟩:=hp;exact⟨arr[i]'(by omega),by simp[aE,h1,h2,hj],by simp[bT,h1]⟩
end
theorem q09:(Try.f25.name== "runtime.NumGoroutine")=false:=by kernel_rfl
section
variable {i C Wg:Nat}
theorem ji5 (T:Array ag) (v:ag) (hK:WgLive link.tWg Wg w/\Has C i v w):
  Goes prog false (RW link.tWg Wg C 4 0 i) (DWs Wg pM pM C 4 (i+1)) (AtR0 prog link.tWg Wg C 4 0 (i+1) v) 26 (G (bW.at ⟨T,[dcall 25 #[.pointer (some ⟨Wg,0,none⟩)]]⟩ (.inRegion zh []::[])) [tX]) w:=by
 have hA:= @doneN _ link prog Ho pM pM Wg C 4 0 (i+1) v
 u_c am kn_rely hK
 u_c stepG_end kn_rely hK
 u_in kn_rely hK
 rw[stepG_unwind_enter rfl func25 q09 rfl];simp only[bm];refine⟨by u_nil,?_⟩
 walk_nrmf Try.f25
 simp only[body_done,doneFn,Option.getD_some]at hA;exact hA rfl (ja2 T) _ hK
theorem jbs {T:Array ag} {v:ag} (hi:i<4) (hCW:C≠Wg) (hR:qw i F v w) (hsl:∃sa n c,v=.slice sa n c) (Nv:T.getD 16 ac=v) (jC:T.getD 17 ac=.pointer (some ⟨C,i,none⟩)):
  Dx prog link.tWg Wg C 4 qw i F O (G (bW.at ⟨T,[dcall 25 #[.pointer (some ⟨Wg,0,none⟩)]]⟩ (.inRegion zh [12]::[])) [tX]) w:=by
 refine⟨rfl,v,hR,λw1 e1 hp hl=>?_⟩;obtain⟨u,qM,BZ⟩:=q1m (i:=i) hp hi;obtain⟨sa,n,c,rfl⟩:=hsl;obtain⟨o,ho,dU,hd,hg⟩:∃o,zh[12]?=some o/\o.op=.store 40 (.tmp 17) (.tmp 16)/\o.dst=none/\o.guard=none:=⟨_,rfl,rfl,rfl,rfl⟩
 have dQ:aa o (ax zh (ah T [dcall 25 #[.pointer (some ⟨Wg,0,none⟩)]]).tmps)=true:=by unfold aa;rw[hg]
 have hst:=YK (main:=false) (b:=bW) (kk:=[]) (cs:=[tX]) (rest:=[]) ho dQ (by decide) dU (jC:(ah T _).eval (.tmp 17)=_) (Nv:(ah T _).eval (.tmp 16)=_) qM BZ jgk;have hK:=And.intro (let⟨st,sm,h⟩:=hl;(⟨st,sm,h.of_block ((aR _ ⟨C,i,none⟩ (.slice sa n c)).block Wg (aQ hCW))⟩:WgLive link.tWg Wg (w1.setCell ⟨C,i,none⟩ (.slice sa n c)))) (q3y (i:=i) hp hi (.slice sa n c));rw[hd]at hst;exact⟨_,hst,26,ji5 T _ hK⟩
theorem YI:Region.departs zh=false:=by kernel_rfl
theorem Xz {mixed:Bool} {t:Nat}:Region.schedule mixed zh t=av .any zh 13 t (bH 13 false) []:=by
 unfold Region.schedule;rw[YI];simp only[Bool.not_false,Bool.or_true,if_true];unfold Region.linearise;rw[Lm]
theorem Z0 {fb:Nat} {dp s t:ag} {F0:Blocks} (hi:i<4) (hCW:C≠Wg) (qx:∀F v w w1,qw i F v w->Ext F w w1->qw i F v w1) (hsl:∀F v w,qw i F v w->∃sa n c,v=.slice sa n c)
  (gQ:Bq F0 kb cb fb tb cl i dp s t w) (hF:FOk F0 (λ_=>False) w)
  (lm:∀(c:ak) (cs:List ak) (w1:ae),Ext F0 w w1->WG prog false (AtRet prog (qw i) (c::cs)) F0 (λ_=>False) (G (aq prog 26 #[dp,s,t] .normal) (c::cs)) w1):
  Script prog link.tWg Wg C 4 qw i F0 (born prog (xV Wg cb kb fb tb C)) w:=by
 refine⟨F0,λ_ h=>h,?_⟩;refine WG.ctl rfl hF (X8 Wg cb kb fb tb C) ?_;have hb:KA=.seq (.region 0 #[{dst:=none,op:=.defer {callee:=.value (.func 25),args:=#[.tmp 0],argTypes:=#[85]},type:=0,pos:= "cluster.go:120",after:=#[],guard:=none}] false) (.region 1 zh true):=rfl;rw[hb];refine WG.ctl rfl hF (λw1=>aB) ?_;refine WG.ctl rfl hF (λw1=>ay) ?_;refine WG.ctl rfl hF (λw1=>stepG_defer rfl rfl (by decide) rfl) ?_
 walk_nrm
 refine WG.ctl rfl hF (λw1=>am) ?_;refine WG.quiet rfl hF λw1 e1=>⟨_,1,#[],stepG_region_draw,by simp,?_⟩
 rw[Xz];show WG _ _ _ _ _ (G (bW.at ⟨#[.pointer (some ⟨Wg,0,none⟩),.pointer (some ⟨cb,0,none⟩),.pointer (some ⟨kb,0,none⟩),.pointer (some ⟨fb,0,none⟩),.pointer (some ⟨tb,0,none⟩),.pointer (some ⟨C,0,none⟩),ac,ac,ac,ac,ac,ac,ac,ac,ac,ac,ac,ac],[dcall 25 #[.pointer (some ⟨Wg,0,none⟩)]]⟩ _) _) _;refine wReg (Stop:=Dx prog link.tWg Wg C 4 qw i) (ds:=[dcall 25 #[.pointer (some ⟨Wg,0,none⟩)]]) (b:=bW) (k:=[]) (cs:=[tX]) (qw:=qw i) (F0:=F0) (w0:=w) (C:=C) (Wg:=Wg) hi (by decide) qx (λc w1 e=>lm c [tX] w1 e)
  (λF O w T v _ _ hR Nv jC _=>jbs hi hCW hR (hsl _ _ _ hR) Nv jC) 13 _ (bH 13 false) _ F0 (λ_=>False) _ rfl rfl ?_ (gQ.ext ?_) (hF.ext ?_) (λ_ h=>h) rfl ?_ ?_ ?_
 ·refine⟨rfl,rfl,rfl,rfl,rfl,rfl,λj hj h=>?_⟩;have:(bH 13 false).getD j false=false:=by
   have Mf:j<13:=by omega
   simp[Mf]
  rw[this]at h;cases h
 ·exact⟨e1.size,e1.keep⟩
 ·exact⟨e1.size,e1.keep⟩
 ·intro h;cases h
 ·exact λ_=>⟨rfl,rfl,⟨e1.size,e1.keep⟩⟩
 ·intro h;cases h
end
end
end Ph
namespace Sim
open Go Go.Conc
def Kv (P:aK) (f:aC) (R:ag->ae->Prop) (fr:ak) (cs:List ak) (w:ae):Prop:=cs=[c0]/\fr.fn=f/\∃v,fr.leaving P w (.returned v)/\R v w
section
variable {X:Cx} {Fb:aC->Bool} {wr:Bool}
theorem Y4 (S:X.Set Fb wr (λ_=>false)) {args:Array ag} (hinv:Inv X Fb wr (aq X.P f args .normal) [c0] w) (hR:∀v w τ,R v (re w τ)->R v w)
  (hc:∀τ,Agree w τ->bi X.P f args (re w τ) fun|.returned v,w'=>R v w'|_,_=>False):lH X.P (Kv X.P f R) (aq X.P f args .normal) [c0] w:=by
 refine bar S (λfr cs w h=>?_) (λfr cs w τ hi ha h=>?_) hinv (λτ ha=>?_)
 ·obtain⟨-,-,v,h,-⟩:=h;intro ch e;rw[h.1]at e;cases e
 ·obtain⟨e,OA,v,⟨h1,h2,h3,fn,h4,h5⟩,hr⟩:=h;refine⟨e,OA,v,⟨h1,h2,h3,fn,h4,?_⟩,hR _ _ _ hr⟩;obtain⟨ρ,dY,up,up',w',e0,hf,-,hw,-,-⟩:=hi.re τ;rcases dZ:(results fn fr.tmps).runT X.P (re w τ) #[]with⟨r0,fM⟩
  have h5':r0=.ok v (re w τ):=by rw[<-h5,<-Sem.runT_fst X.P _ _ #[],dZ]
  subst h5';obtain⟨d1,d2,d3⟩:=(SS.results (f:=fn) S.ok hf.tmps).loc hw dZ;have:=d3 w.tape (λi q hi=>(ha i q hi).symm);rw[<-Sem.runT_fst X.P _ _ #[]];have e:re (re w τ) w.tape=w:=rfl;rw[e]at this;rw[this];rfl
 ·obtain⟨e,w',fr,Nq,CR,qV,CQ⟩:=hc τ ha [c0];cases e with
  |panicked chain=>exact Nq.elim
  |outgrown=>exact Nq.elim
  |returned v=>
   obtain⟨n,hn⟩:=CR;exact conv S (Q:=Kv X.P f R) ⟨rfl,qV,v,CQ,Nq⟩ n (.inl (hinv.re τ)) hn
end
end Sim
namespace Ph
section
open Go Go.Conc Go.ConcN Sim
theorem WG.frame {P:aK} {main:Bool} {H:Blocks}:∀{F O:Blocks} {g:al} {w:ae},WG P main Stop F O g w->(∀b,H b->b<w.heap.size)->
  WG P main (λF' O g w=>∃F,Stop F O g w/\(∀b,F' b↔F b\/H b)/\∀b,H b->b<w.heap.size) (λb=>F b\/H b) O g w:=by
 rintro F O g w ⟨r,h⟩;induction r generalizing F O g w with
 |leaf=>exact λhH=>WG.stop λw1 e=>⟨F,h w1 (e.sub λb hb=>.inl hb),λ_=>Iff.rfl,λb hb=>xll (hH b hb) e.size⟩
 |node f ih=>
  intro hH;refine WG.step h.1 λw1 e=>?_;obtain⟨F',O',g',w',es,h1,h2,h3⟩:=h.2 w1 (e.sub λb hb=>.inl hb);have UA:∀b,H b->b<w1.heap.size:=λb hb=>xll (hH b hb) e.size;refine⟨λb=>F' b\/H b,O',g',w',es,h1,⟨λb hb=>hb.imp (h2.sub b) id,h2.Tj,λb hb=>?_,h2.Ba,λb hb=>.inl (h2.own b hb),h2.keep,h2.size,λb hb=>hb.elim (h2.low b) λx=>xll (UA b x) h2.size,h2.drawn,h2.tape,h2.os,h2.output,λx hx=>?_,h2.nb⟩,ih w1 h3 λb hb=>xll (UA b hb) h2.size⟩
  ·rcases hb with hb|hb
   ·exact(h2.new b hb).imp .inl id
   ·exact .inl (.inr hb)
  ·have:=h2.ev x hx;obtain⟨loc,wt,sy⟩:=x;cases loc with
   |cell a=>exact⟨this.1,.inl this.2.1,this.2.2⟩
   |obj r=>exact⟨this.1,.inl this.2.1,this.2.2⟩
   |mark m=>cases m<;>exact this
   |_=>exact this
theorem Rh {T:Array ag}:(results Try.f26 T).runT prog w #[]=(.ok (T.getD 6 ac) w,#[]):=by
 have e:Try.f26.results=#[.tmp 6]:=rfl;simp[results,e,go_sem]
theorem YO {T:Array ag} {v:ag} (h:(results Try.f26 T).run prog w=.ok v w'):v=T.getD 6 ac:=by
 rw[<-Sem.runT_fst _ _ _ #[],Rh]at h;injection h with h _;exact h.symm
theorem VQ {fn:Func} (h:prog.funcs[f]?=some fn) (e:f=26):fn=Try.f26:=by
 rw[e,func26]at h;exact(xoi h).symm
def dm (db mb:Nat):Nat->Prop:=λb=>b=db\/b=mb
def rdm (db mb:Nat):Rel:=λa b=>a=b/\dm db mb a
def zK (db mb:Nat) (m:ag) (w:ae):ae:={w with heap:=w.heap.mapIdx λb o=>if b=db then .cells #[m] 109 (0,1)else if b=mb then o else .cells #[] 0}
section
variable {db mb:Nat} {es:Array bk} {clock:Nat} {s t:ByteArray} {F0:Blocks} {w1:ae} {R:ag->ae->Prop} {qw:Blocks->ag->ae->Prop}
theorem q1k (hF:FOk F0 (λ_=>False) w1) (Gp:F0 db) (M6:F0 mb) (eD:db≠mb) (hd:w1.heap[db]?=some (.cells #[.map (some mb)] 109 (0,0))) (hm:w1.heap[mb]?=some (.map es clock)) (iL:∀(F:aC->Prop) ρ,EsR F ρ es.toList es.toList)
  (wE:∀wl,wl.heap[db]?=some (.cells #[.map (some mb)] 109 (0,1))->wl.heap[mb]?=some (.map es clock)->bi prog 26 #[.pointer (some ⟨db,0,none⟩),.string s,.string t] wl fun|.returned v,w'=>R v w'|_,_=>False)
  (hR:∀v w τ,R v (re w τ)->R v w)
  (htr:∀ρ v v' w w',R v w->VR (λf=>fbP f=true) ρ v v'->WN (XW (dm db mb)) ρ w w'->qw (rng ρ) v' w') (hmono:∀F F' v w,qw F v w->(∀b,F b->F' b)->qw F' v w) (c:ak) (cs:List ak):
  WG prog false (AtRet prog qw (c::cs)) F0 (λ_=>False) (G (aq prog 26 #[.pointer (some ⟨db,0,none⟩),.string s,.string t] .normal) (c::cs)) w1:=by
 have S:=jix (dm db mb);have dW:db<w1.heap.size:=(yc hd).1;have hltm:mb<w1.heap.size:=(yc hm).1;have i1:(zK db mb (.map (some mb)) w1).heap[db]?=some (.cells #[.map (some mb)] 109 (0,1)):=by
  simp only[zK,Array.getElem?_mapIdx,hd,cE,if_true]
 have i2:(zK db mb (.map (some mb)) w1).heap[mb]?=some (.map es clock):=by
  simp only[zK,Array.getElem?_mapIdx,hm,cE,if_neg (aQ eD),if_true]
 have vF:WR (XW (dm db mb)) (rdm db mb) (zK db mb (.map (some mb)) w1) w1:=by
  refine⟨λh h'=>h.1.symm.trans h'.1,λh h'=>h.1.trans h'.1.symm,λ{a b} gB=>?_,λ_ _=>rfl,λa ha=>?_⟩
  ·obtain⟨rfl,h|h⟩:=gB
   ·subst h;exact⟨_,_,i1,hd,.cells (.cons (.map ⟨rfl,.inr rfl⟩) .nil) (.inr rfl)⟩
   ·subst h;exact⟨_,_,i2,hm,.map (iL _ _)⟩
  ·rcases ha with h|h
   ·subst h;exact .inl ⟨_,_,1,i1,by simp⟩
   ·subst h;exact .inr ⟨_,_,i2⟩
 have DV:NB (zK db mb (.map (some mb)) w1):=trivial;have gG:jq (λf=>fbP f=true) (rdm db mb) [.pointer (some ⟨db,0,none⟩),.string s,.string t] [.pointer (some ⟨db,0,none⟩),.string s,.string t]:=.cons (.ptr ⟨rfl,.inl rfl⟩) (.cons (.string s) (.cons (.string t) .nil));have hFb:(XW (dm db mb)).F 26:=by show fbP _=true;decide
 have jJ:FR (XW (dm db mb)) fbP false (rdm db mb) (aq prog 26 #[.pointer (some ⟨db,0,none⟩),.string s,.string t] .normal) (aq prog 26 #[.pointer (some ⟨db,0,none⟩),.string s,.string t] .normal):=QN S hFb rfl gG;have hB:Bot [aq prog 26 #[.pointer (some ⟨db,0,none⟩),.string s,.string t] .normal]:=by
  intro f hf;simp at hf;subst hf;rfl
 have hinv:Inv (XW (dm db mb)) fbP false (aq prog 26 #[.pointer (some ⟨db,0,none⟩),.string s,.string t] .normal) [c0] (zK db mb (.map (some mb)) w1):=⟨rdm db mb,_,[],[],w1,rfl,jJ,.nil,vF,DV,hB⟩
 have SC:=Y4 S hinv hR λτ _=>wE (re (zK db mb (.map (some mb)) w1) τ) i1 i2;have hQm:∀fr cs w,Kv prog 26 R fr cs w->∀ch,fr.mode≠.panicking ch:=λfr cs w ⟨_,_,v,h,_⟩ ch e=>by rw[h.1]at e;cases e
 have hgo:=jbg S false (c::cs) hQm SC (up:=[]) (up':=[]) rfl jJ .nil (WN.of vF) DV hB;have TG:=WG.frame (H:=F0) hgo hF.low;have eF:(λb=>rng (rdm db mb) b\/F0 b)=F0:=by
  funext b;refine propext ⟨λh=>h.elim (λ⟨a,h1,h2⟩=>?_) id,.inr⟩;subst h1;rcases h2 with rfl|rfl
  ·exact Gp
  ·exact M6
 have eO:own (XW (dm db mb)) (rdm db mb)=λ_=>False:=by
  funext b;exact propext ⟨λ⟨a,h1,h2⟩=>h2 h1.2,False.elim⟩
 rw[eF,eO]at TG;refine WG.then TG ?_;rintro F' O g w ⟨F,hst,jK,mV⟩;refine WG.stop λw2 e2=>?_;cases hst with
 |special _ h=>cases h
 | @done ρ fr dY up up' wl w' h1 h2 h3 h4 h5 h6=>
  obtain⟨hc,qV,v,qR,hr⟩:=h6;have mH:up=[]:=by
   have:=congrArg dn hc;simp at this;exact aw (by simpa using this)
  subst mH;cases h2;obtain⟨l1,l2,l3,fn,l4,l5⟩:=qR;have UE:=h3.ext (e2.sub λb hb=>(jK b).2 (.inl hb));obtain rfl:=VQ l4 qV;obtain rfl:=YO l5;have hvr:VR (λf=>fbP f=true) ρ (fr.tmps.getD 6 ac) (dY.tmps.getD 6 ac):=jq.Dr h1.tmps 6;refine⟨⟨λb hb=>?_,λb hb=>?_⟩,dY.tmps.getD 6 ac,hmono _ _ _ _ (htr ρ _ _ _ _ hr hvr UE) (λb hb=>(jK b).2 (.inl hb)),rfl,λc' fI e w3=>?_⟩
  ·rcases(jK b).1 hb with⟨a,gB⟩|hb
   ·obtain⟨τ,_,k⟩:=UE;obtain⟨o,o',_,k2,_⟩:=k.heap gB;exact(yc k2).1
   ·exact xll (mV b hb) e2.size
  ·obtain⟨a,gB,_⟩:=hb;exact(jK b).2 (.inl ⟨a,gB⟩)
  ·cases e;have m1:dY.mode=.returning:=h1.mode.trans l1;have m2:dY.defers=[]:=by
    have:=h1.defers;rw[l2]at this;generalize dY.defers=d at this;cases this;rfl
   have m3:prog.funcs[dY.fn]?=some Try.f26:=by
    rw[h1.fn,qV];exact func26
   show aT prog false (G dY (c::cs)) w3=_;rw[zo _ _ _ _ _ m1];obtain⟨D9,Hq,SI,Fv,ED,EU,Pb⟩:=dY;obtain rfl:EU=.normal:=h1.kind';obtain rfl:Fv=[]:=m2;obtain rfl:ED=.returning:=m1;have m3:prog.funcs[D9]?=some Try.f26:=m3;unfold unwind;dsimp only;rw[m3];dsimp only;rw[Rh];rfl
end
end
section
open Go.Conc Go.ConcN Go.RowKit Go.Conc.Lib Go.ConcR.Gen Go.ConcN.Gen Go Sim
open Go.ConcR (KK wgBlock WgAt stA smA rd wr mk Payload Aside2 DC0 ofEvent_cell)
section
variable {P:aK} {ty:co} {Wg:Nat} {F:Blocks} {w0:ae} {Stop:al->ae->Prop}
theorem Xf:∀(m:Nat) {g:al} {w:ae},Goes P true (RM ty Wg F) DC0 Stop m g w->Ext F w0 w->Goes P true (RM ty Wg F) DC0 (λg w=>Stop g w/\Ext F w0 w) m g w:=by
 intro m;induction m with
 |zero=>exact λh e w1 r=>⟨h w1 r,e.trans r.ext⟩
 |succ m ih=>
  intro g w h e;rcases h with h|⟨h1,h2⟩
  ·exact .inl λw1 r=>⟨h w1 r,e.trans r.ext⟩
  ·refine .inr ⟨h1,λw1 r=>?_⟩;have:=h2 w1 r;cases hs:aT P true g w1 with
   |go g' w' es=>
    rw[hs,bm]at this;rw[bm];refine⟨this.1,ih this.2 ?_⟩;obtain⟨rfl,_⟩:=this.1;exact e.trans r.ext
   |_=>rw[hs]at this;exact this.elim
theorem MG.keep (h:MG P ty Wg F Stop g w) (e:Ext F w0 w):MG P ty Wg F (λg w=>Stop g w/\Ext F w0 w) g w:=let⟨m,h⟩:=h;⟨m,Xf m h e⟩
theorem XR {jY:al->ae->Prop} (hs:∀g w,Stop g w->jY g w):∀(m:Nat) {g:al} {w:ae},Goes P true (RM ty Wg F) DC0 Stop m g w->Goes P true (RM ty Wg F) DC0 jY m g w:=by
 intro m;induction m with
 |zero=>exact λh w1 r=>hs _ _ (h w1 r)
 |succ m ih=>
  intro g w h;rcases h with h|⟨h1,h2⟩
  ·exact .inl λw1 r=>hs _ _ (h w1 r)
  ·refine .inr ⟨h1,λw1 r=>?_⟩;have:=h2 w1 r;cases hs:aT P true g w1 with
   |go g' w' es=>
    rw[hs,bm]at this;rw[bm];exact⟨this.1,ih this.2⟩
   |_=>rw[hs]at this;exact this.elim
theorem MG.mono {jY:al->ae->Prop} (h:MG P ty Wg F Stop g w) (hs:∀g w,Stop g w->jY g w):MG P ty Wg F jY g w:=let⟨m,h⟩:=h;⟨m,XR hs m h⟩
theorem iA.keep {m:Mark} {K':al->ae->Prop} (h:iA P m K g w) (hk:∀g,K g w->K' g w):iA P m K' g w:=
 ⟨h.1,let⟨g',h1,h2⟩:=h.2;⟨g',h1,hk _ h2⟩⟩
theorem q3p {v:ag} (hW:¬F Wg) (e:Ext F w0 w):Ext F w0 (w.setCell (stA Wg) v):=
 e.trans ⟨Nat.le_of_eq (aR w (stA Wg) v).size.symm,λb hb=>(aR w (stA Wg) v).block b λ(x:b=Wg)=>hW (by rw[<-x];exact hb)⟩
theorem Wi (hW:¬F Wg) (h:MG P ty Wg F (iA P .disable (MG P ty Wg F (uX P ty Wg F (MG P ty Wg F K)))) g w) (e:Ext F w0 w):
  MG P ty Wg F (iA P .disable (MG P ty Wg F (uX P ty Wg F (MG P ty Wg F (λg w=>K g w/\Ext F w0 w))))) g w:=by
 refine(h.keep e).mono λg w ⟨h1,e1⟩=>h1.keep λg h2=>(h2.keep e1).mono λg w ⟨h3,e3⟩=>⟨h3.1,λv hv hw=>?_⟩
 obtain⟨g',k1,k2⟩:=h3.2 v hv hw;have e4:Ext F w0 (w.setCell (stA Wg) (.int .u64 ((v+1)*KK))):=q3p hW e3;refine⟨g',k1,k2.imp (λ⟨a,b⟩=>⟨a,?_⟩) (λ⟨a,b⟩=>⟨a,?_⟩)⟩
 ·exact(b.keep e4).mono λg w ⟨b1,e5⟩=>b1.keep λg b2=>(b2.keep e5).mono λg w ⟨b3,e6⟩=>b3.keep λg b4=>b4.keep e6
 ·exact(b.keep e4).mono λg w ⟨b1,e5⟩=>b1.keep λg b4=>b4.keep e5
theorem Wh {K':al->ae->Prop} (hs:∀g w,K g w->K' g w) (h:MG P ty Wg F (iA P .disable (MG P ty Wg F (uX P ty Wg F (MG P ty Wg F K)))) g w):
  MG P ty Wg F (iA P .disable (MG P ty Wg F (uX P ty Wg F (MG P ty Wg F K')))) g w:=
 h.mono λg w h1=>h1.keep λg h2=>h2.mono λg w h3=>⟨h3.1,λv hv hw=>by
  obtain⟨g',k1,k2⟩:=h3.2 v hv hw;refine⟨g',k1,k2.imp (λ⟨a,b⟩=>⟨a,?_⟩) (λ⟨a,b⟩=>⟨a,?_⟩)⟩
  ·exact b.mono λg w b1=>b1.keep λg b2=>b2.mono λg w b3=>b3.keep λg b4=>b4.mono hs
  ·exact b.mono λg w b1=>b1.keep λg b4=>b4.mono hs⟩
end
abbrev fS:aC:=11
def bS:ak:=base fS
noncomputable def rH:Code:=Try.f11.body.getD .skip
noncomputable def zW:Code:=match rH with|.seq _ (.seq _ (.seq _ (.seq _ c)))=>c|_=>.skip
noncomputable def sL:Code:=match zW with|.seq (.seq _ (.block _ (.loop c))) _=>c|_=>.skip
noncomputable def sR:Code:=match zW with|.seq _ c=>c|_=>.skip
noncomputable def sIn:Code:=match sL with|.seq _ (.seq _ (.seq (.block _ c) _))=>c|_=>.skip
noncomputable def rg:Code->Array Oper|.region _ ops _=>ops|_=>#[]
noncomputable def R6:Array Oper:=match sL with|.seq a _=>rg a|_=>#[]
noncomputable def R10:Array Oper:=match sL with|.seq _ (.seq _ (.seq _ a))=>rg a|_=>#[]
noncomputable def R7:Array Oper:=match sIn with|.seq a _=>rg a|_=>#[]
noncomputable def R8:Array Oper:=match sIn with|.seq _ (.seq a _)=>rg a|_=>#[]
noncomputable def R9:Array Oper:=match sIn with|.seq _ (.seq _ a)=>rg a|_=>#[]
theorem jio:sL=.seq (.region 6 R6 false) (.seq (.cond (.tmp 19) .skip (.exit 0)) (.seq (.block 1 sIn) (.region 10 R10 false))):=rfl
theorem jbc:sIn=.seq (.region 7 R7 false) (.seq (.region 8 R8 false) (.region 9 R9 false)):=rfl
structure ScT (kb cb fb tb C Wg:Nat) (T:Array ag):Prop where
 size:T.size=42
 t4:T.getD 4 ac=.pointer (some ⟨cb,0,none⟩)
 t5:T.getD 5 ac=.pointer (some ⟨fb,0,none⟩)
 t6:T.getD 6 ac=.pointer (some ⟨tb,0,none⟩)
 t10:T.getD 10 ac=.pointer (some ⟨C,0,none⟩)
 t11:T.getD 11 ac=.pointer (some ⟨Wg,0,none⟩)
 t12:T.getD 12 ac=.pointer (some ⟨kb,0,none⟩)
section
variable {kb cb fb tb C Wg:Nat} {T:Array ag} {F:Blocks} {w:ae} {k:List Item} {cs:List ak}
def clW (Wg cb kb fb tb C:Nat):ag:=.func (.func fW) #[] #[.pointer (some ⟨Wg,0,none⟩),.pointer (some ⟨cb,0,none⟩),.pointer (some ⟨kb,0,none⟩),.pointer (some ⟨fb,0,none⟩),.pointer (some ⟨tb,0,none⟩),.pointer (some ⟨C,0,none⟩)]
def T9 (Wg cb kb fb tb C:Nat) (T:Array ag):Array ag:=(T.setIfInBounds 21 (.tuple #[])).setIfInBounds 22 (clW Wg cb kb fb tb C)
def Kw (Wg cb kb fb tb C:Nat) (T:Array ag) (k:List Item) (cs:List ak) (g:al) (_:ae):Prop:=g=G (bS.at ⟨T9 Wg cb kb fb tb C T,[]⟩ (.inRegion R9 [1]::k)) cs
theorem Xp (hT:ScT kb cb fb tb C Wg T) (w:ae):Goes prog true (RM link.tWg Wg F) DC0 (Kw Wg cb kb fb tb C T k cs) 3
  (G (bS.at ((ah T []).put ((R8[0]?).bind (·.dst)) (.tuple #[])) (.inRegion R8 []::.code (.region 9 R9 false)::k)) cs) w:=by
 refine Goes.step rfl λw1 _=>?_;rw[am];simp only[bm];refine⟨⟨rfl,rfl⟩,?_⟩;refine Goes.step rfl λw2 _=>?_;rw[ay];simp only[bm];refine⟨⟨rfl,rfl⟩,?_⟩;show Goes _ _ _ _ _ 1 (G (bS.at ⟨T.setIfInBounds 21 (.tuple #[]),[]⟩ (.inRegion R9 [0,1]::k)) cs) w2;refine Goes.step rfl λw3 _=>?_;obtain⟨o,ho,dU,hd,hg⟩:∃o,R9[0]?=some o/\o.op=.makeFunc (.func fW) #[] #[.tmp 11,.tmp 4,.tmp 12,.tmp 5,.tmp 6,.tmp 10]/\o.dst=some 22/\o.guard=none:=⟨_,rfl,rfl,rfl,rfl⟩
 have dQ:aa o (ax R9 (ah (T.setIfInBounds 21 (.tuple #[])) []).tmps)=true:=by unfold aa;rw[hg]
 have ev:(ai (ah (T.setIfInBounds 21 (.tuple #[])) []).eval o).run prog w3=.ok (.value (clW Wg cb kb fb tb C)) w3/\(ai (ah (T.setIfInBounds 21 (.tuple #[])) []).eval o).events prog w3 #[]=#[]:=by
  have b4:(ah (T.setIfInBounds 21 (.tuple #[])) []).eval (.tmp 4)=_:=(ql (by omega)).trans hT.t4;have b5:(ah (T.setIfInBounds 21 (.tuple #[])) []).eval (.tmp 5)=_:=(ql (by omega)).trans hT.t5;have b6:(ah (T.setIfInBounds 21 (.tuple #[])) []).eval (.tmp 6)=_:=(ql (by omega)).trans hT.t6;have GL:(ah (T.setIfInBounds 21 (.tuple #[])) []).eval (.tmp 10)=_:=(ql (by omega)).trans hT.t10;have AO:(ah (T.setIfInBounds 21 (.tuple #[])) []).eval (.tmp 11)=_:=(ql (by omega)).trans hT.t11;have J8:(ah (T.setIfInBounds 21 (.tuple #[])) []).eval (.tmp 12)=_:=(ql (by omega)).trans hT.t12;generalize (ah (T.setIfInBounds 21 (.tuple #[])) []).eval=e at*;unfold ai;constructor
  ·simp[go_sem,dU,b4,b5,b6,GL,AO,J8,clW]
  ·simp[go_sem,dU,b4,b5,b6,GL,AO,J8]
 rw[aU ho dQ (by decide) ev.1];simp only[bm];refine⟨⟨rfl,?_⟩,?_⟩
 ·unfold listed;rw[ev.2,bA]
 ·rw[hd];exact λ_ _=>rfl
theorem atGo {Next:al->ae->Prop} (hT:ScT kb cb fb tb C Wg T) (hg:Kw Wg cb kb fb tb C T k cs g w)
  (hs:PayAt C 4 w->Script prog link.tWg Wg C 4 qw i F (born prog (xV Wg cb kb fb tb C)) w) (hn:Next (G (bS.at ⟨T9 Wg cb kb fb tb C T,[]⟩ (.inRegion R9 []::k)) cs) w):
  AtGoM prog link.tWg Wg C 4 qw i F Next g w:=by
 obtain rfl:=hg;obtain⟨o,ho,dU,hd,D6⟩:∃o,R9[1]?=some o/\o.op=.go {callee:=.value (.tmp 22),args:=#[],argTypes:=#[]}/\o.dst=none/\o.guard=none:=⟨_,rfl,rfl,rfl,rfl⟩
 have dQ:aa o (ax R9 (ah (T9 Wg cb kb fb tb C T) []).tmps)=true:=by unfold aa;rw[D6]
 have ev:(ai (ah (T9 Wg cb kb fb tb C T) []).eval o).run prog w=.ok (.spawn (xV Wg cb kb fb tb C)) w/\(ai (ah (T9 Wg cb kb fb tb C T) []).eval o).events prog w #[]=#[]:=by
  have U3:(ah (T9 Wg cb kb fb tb C T) []).eval (.tmp 22)=clW Wg cb kb fb tb C:=ze (by simp[hT.size]);generalize (ah (T9 Wg cb kb fb tb C T) []).eval=e at*;unfold ai;constructor
  ·simp[go_sem,dU,U3,clW,xV,resolve,Deferred.ofValue]
  ·simp[go_sem,dU,U3,clW,resolve,Deferred.ofValue]
 have Ai:=stepG_spawn (P:=prog) (main:=true) (b:=bS) (k:=k) (cs:=cs) (rest:=[]) ho dQ (by decide) ev.1 (f:=.func fW) (c:=#[.pointer (some ⟨Wg,0,none⟩),.pointer (some ⟨cb,0,none⟩),.pointer (some ⟨kb,0,none⟩),.pointer (some ⟨fb,0,none⟩),.pointer (some ⟨tb,0,none⟩),.pointer (some ⟨C,0,none⟩)]) rfl;rw[hd]at Ai;have hl:listed prog bS.fn (ah (T9 Wg cb kb fb tb C T) []) o w=#[]:=by unfold listed;rw[ev.2,bA]
 rw[hl]at Ai;exact⟨rfl,_,_,Ai,rfl,hs,hn⟩
theorem sAdd {Next:al->ae->Prop} (hT:ScT kb cb fb tb C Wg T) (hW:¬F Wg) (hl:WgLive link.tWg Wg w)
  (hs:∀w1,Ext F w w1->PayAt C 4 w1->Script prog link.tWg Wg C 4 qw i F (born prog (xV Wg cb kb fb tb C)) w1) (hn:∀w1,Ext F w w1->Next (G (bS.at ⟨T9 Wg cb kb fb tb C T,[]⟩ (.inRegion R9 []::k)) cs) w1):
  MG prog link.tWg Wg F (iA prog .disable (MG prog link.tWg Wg F (uX prog link.tWg Wg F (MG prog link.tWg Wg F (AtGoM prog link.tWg Wg C 4 qw i F Next)))))
   (G (aq prog 23 #[.pointer (some ⟨Wg,0,none⟩),.int .i64 1] .normal) (bS.at ⟨T,[]⟩ (.inRegion R8 [0]::.code (.region 9 R9 false)::k)::cs)) w:=by
 have h1:=add1 (F:=F) Ho (K:=Kw Wg cb kb fb tb C T k cs) (b₀:=bS) (a₀:=⟨T,[]⟩) (ops₀:=R8) (i₀:=0) (rest₀:=[]) (k₀:=.code (.region 9 R9 false)::k) (cs:=cs) (λw _=>Xp hT w) w hl;have h2:=Wi hW h1 (Ext.refl F w);rw[enter_at _ func23 (show Try.f23.body=some (body_add link)from rfl)]
 walk_nrmf Try.f23
 exact Wh (λg w ⟨h,e⟩=>atGo hT h (hs w e) (hn w e)) h2
end
structure ScH (mo:ag) (cb fb tb C Wg i:Nat) (T:Array ag):Prop where
 size:T.size=42
 t4:T.getD 4 ac=.pointer (some ⟨cb,0,none⟩)
 t5:T.getD 5 ac=.pointer (some ⟨fb,0,none⟩)
 t6:T.getD 6 ac=.pointer (some ⟨tb,0,none⟩)
 t10:T.getD 10 ac=.pointer (some ⟨C,0,none⟩)
 t11:T.getD 11 ac=.pointer (some ⟨Wg,0,none⟩)
 t18:T.getD 18 ac=.int .i64 i
 t3:T.getD 3 ac=mo
theorem jgj:(prog.funcs[bS.fn]?).any (·.norace)=false:=by kernel_rfl
section
variable {mo:ag} {cb fb tb C Wg i:Nat} {T:Array ag} {F O:Blocks} {w:ae} {k:List Item} {cs:List ak} {Stop:Blocks->Blocks->al->ae->Prop}
theorem Sk (hT:ScH mo cb fb tb C Wg i T) (hF:FOk F O w) {b:Bool} (hb:decide ((i:Int)<4)=b)
  (n:WG prog true Stop F O (G (bS.at ⟨T.setIfInBounds 19 (.bool b),[]⟩ (.code (if b then .skip else .exit 0)::.code (.seq (.block 1 sIn) (.region 10 R10 false))::k)) cs) w):
  WG prog true Stop F O (G (bS.at ⟨T,[]⟩ (.code sL::k)) cs) w:=by
 rw[jio];refine WG.ctl rfl hF (λw1=>aB) ?_;refine WG.ctl rfl hF (λw1=>ay) ?_;change WG _ _ _ _ _ (G (bS.at ⟨T,[]⟩ (.inRegion R6 [0]::_)) cs) w;obtain⟨o,ho,dU,hd,hg⟩:∃o,R6[0]?=some o/\o.op=.binOp .lss 3 (.tmp 18) (.const (.int .i64 4)) 3/\o.dst=some 19/\o.guard=none:=⟨_,rfl,rfl,rfl,rfl⟩
 have dQ:aa o (ax R6 (ah T []).tmps)=true:=by unfold aa;rw[hg]
 refine WG.value (.bool b) hF ho dQ (by decide) (λw1 _=>?_) ?_
 ·have AJ:(ah T []).eval (.tmp 18)=.int .i64 i:=hT.t18;have bc:(ah T []).eval (.const (.int .i64 4))=.int .i64 4:=rfl;generalize (ah T []).eval=e at*;unfold ai;constructor
  ·simp[go_sem,dU,AJ,bc,hb]
  ·simp[go_sem,dU,AJ,bc]
 rw[hd];change WG _ _ _ _ _ (G (bS.at ⟨T.setIfInBounds 19 (.bool b),[]⟩ (.inRegion R6 []::_)) cs) w;refine WG.ctl rfl hF (λw1=>am) ?_;refine WG.ctl rfl hF (λw1=>aB) ?_;have hc:(ah (T.setIfInBounds 19 (.bool b)) []).eval (.tmp 19)=.bool b:=ze (by rw[hT.size];omega);exact WG.ctl rfl hF (λw1=>stepG_cond hc) n
def grown (w:ae):ae:={w with heap:=w.heap.push (.cells #[.int .i64 0] 3)}
theorem Tc (dU:o.op=.alloc 3) (w:ae):(ai e o).run prog w=.ok (.value (.pointer (some ⟨w.heap.size,0,none⟩))) (grown w)/\(ai e o).events prog w #[]=#[]:=by
 unfold ai;constructor
 ·simp[go_sem,dU,grown,Instr.alloc]
 ·simp[go_sem,dU,Instr.alloc]
theorem jbd {x y:bZ} {n:Int} {u:ag} (dU:o.op=.store 3 x y) (hx:e x=.pointer (some ad)) (hy:e y=.int .i64 n) {w:ae} (hc:w.cell? ad=some u) (hz:w.frozen? ad=false):
  (ai e o).run prog w=.ok .skip (w.setCell ad (.int .i64 n))/\(ai e o).events prog w #[]=#[⟨.cell ad,true,false⟩]:=by
 unfold ai;simp only[dU,hx,hy];constructor
 ·simp[go_sem,stored,hc,hz]
 ·simp[go_sem,storedEv,hc,hz]
theorem LK {w:ae}:(grown w).heap.size=w.heap.size+1:=by
 show(w.heap.push _).size=_;rw[Array.size_push]
theorem QG (hF:FOk F O w):sS F O w (λb=>F b\/b=w.heap.size) (λb=>O b\/b=w.heap.size) (grown w) #[]:=
 ⟨λ_ h=>.inl h,λ_ h=>.inl h,λb h=>h.imp id (λe=>by rw[e];exact jm _),λb h=>h.imp id (λe=>by rw[e];exact jm _),λb h=>h.imp (hF.own b) id,λb hb _=>by
  show(w.heap.push _)[b]?=_;rw[aj,if_neg (Nat.ne_of_lt hb)],by rw[LK];omega,
  λb h=>by
   rw[LK];rcases h with h|h
   ·exact Nat.lt_succ_of_lt (hF.low b h)
   ·omega,⟨0,rfl⟩,rfl,rfl,rfl,by simp,NB.push λ_ _ e=>by cases e⟩
theorem XP:(grown w).cell? ⟨w.heap.size,0,none⟩=some (.int .i64 0)/\(grown w).frozen? ⟨w.heap.size,0,none⟩=false:=by
 have h:(grown w).heap[w.heap.size]?=some (.cells #[.int .i64 0] 3):=by
  show(w.heap.push _)[_]?=_;rw[aj,if_pos rfl]
 constructor
 ·simp[aE,h]
 ·simp[bT,h]
theorem S9 {w:ae} {v:ag} (hF:FOk F O w) (hk:O kb):sS F O w F O (w.setCell ⟨kb,0,none⟩ v) #[⟨.cell ⟨kb,0,none⟩,true,false⟩]:=by
 have hA:=aR w ⟨kb,0,none⟩ v;refine⟨λ_ h=>h,λ_ h=>h,λ_ h=>.inl h,λ_ h=>.inl h,hF.own,λb _ hb=>hA.block b λ(e:b=kb)=>hb (e▸hk),Nat.le_of_eq hA.size.symm,λb h=>by rw[hA.size];exact hF.low b h,⟨0,?_⟩,hA.tape,hA.os,hA.output,λe he=>?_,λ_=>trivial⟩
 ·unfold World.setCell;rfl
 ·rw[Array.mem_singleton]at he;subst he;exact⟨rfl,hF.own _ hk,λ_=>hk⟩
def T7 (i kb:Nat) (T:Array ag):Array ag:=((T.setIfInBounds 19 (.bool true)).setIfInBounds 20 (.int .i64 i)).setIfInBounds 12 (.pointer (some ⟨kb,0,none⟩))
theorem Ro {F O F' O':Blocks} {w:ae} {es:Array Event} (h:sS F O w F' O' w' es):FOk F' O' w':=⟨h.low,h.own⟩
theorem jip (hT:ScH mo cb fb tb C Wg i T) (hF:FOk F O w)
  (n:∀(kb:Nat) (w3:ae),Ext F w w3->w.heap.size<=kb->w3.cell? ⟨kb,0,none⟩=some (.int .i64 i)->FOk (λb=>F b\/b=kb) (λb=>O b\/b=kb) w3->WG prog true Stop (λb=>F b\/b=kb) (λb=>O b\/b=kb)
   (G (bS.at ⟨T7 i kb T,[]⟩ (.inRegion R8 [0]::.code (.region 9 R9 false)::k)) cs) w3):
  WG prog true Stop F O (G (bS.at ⟨T.setIfInBounds 19 (.bool true),[]⟩ (.code sIn::k)) cs) w:=by
 rw[jbc];refine WG.ctl rfl hF (λw1=>aB) ?_;refine WG.ctl rfl hF (λw1=>ay) ?_;change WG _ _ _ _ _ (G (bS.at ⟨T.setIfInBounds 19 (.bool true),[]⟩ (.inRegion R7 [0,1,2]::_)) cs) w;obtain⟨o,ho,dU,hd,hg⟩:∃o,R7[0]?=some o/\o.op=.move (.tmp 18)/\o.dst=some 20/\o.guard=none:=⟨_,rfl,rfl,rfl,rfl⟩
 have dQ:aa o (ax R7 (ah (T.setIfInBounds 19 (.bool true)) []).tmps)=true:=by unfold aa;rw[hg]
 refine WG.value (.int .i64 i) hF ho dQ (by decide) (λw1 _=>?_) ?_
 ·have AJ:(ah (T.setIfInBounds 19 (.bool true)) []).eval (.tmp 18)=.int .i64 i:=(ql (by omega)).trans hT.t18;generalize (ah (T.setIfInBounds 19 (.bool true)) []).eval=e at*;unfold ai;constructor
  ·simp[go_sem,dU,AJ]
  ·simp[go_sem,dU,AJ]
 rw[hd];change WG _ _ _ _ _ (G (bS.at ⟨(T.setIfInBounds 19 (.bool true)).setIfInBounds 20 (.int .i64 i),[]⟩ (.inRegion R7 [1,2]::_)) cs) w;obtain⟨o1,vH,iJ,hd1,jB⟩:∃o,R7[1]?=some o/\o.op=.alloc 3/\o.dst=some 12/\o.guard=none:=⟨_,rfl,rfl,rfl,rfl⟩
 have BI:aa o1 (ax R7 (ah ((T.setIfInBounds 19 (.bool true)).setIfInBounds 20 (.int .i64 i)) []).tmps)=true:=by unfold aa;rw[jB]
 refine WG.step rfl λw1 e1=>?_;have xC:=hF.ext e1;have hs:=aU (P:=prog) (main:=true) (b:=bS) (k:=.code (.seq (.region 8 R8 false) (.region 9 R9 false))::k) (cs:=cs) (rest:=[2]) vH BI (by decide) (Tc iJ w1).1;have hl:listed prog bS.fn (ah ((T.setIfInBounds 19 (.bool true)).setIfInBounds 20 (.int .i64 i)) []) o1 w1=#[]:=by unfold listed;rw[(Tc iJ w1).2,bA]
 rw[hl,hd1]at hs;refine⟨_,_,_,_,_,hs,QG xC,?_⟩;have UC:=Ro (QG xC);change WG _ _ _ _ _ (G (bS.at ⟨T7 i w1.heap.size T,[]⟩ (.inRegion R7 [2]::_)) cs) (grown w1);obtain⟨o2,vG,zD,Ni,jN⟩:∃o,R7[2]?=some o/\o.op=.store 3 (.tmp 12) (.tmp 20)/\o.dst=none/\o.guard=none:=⟨_,rfl,rfl,rfl,rfl⟩
 have KF:aa o2 (ax R7 (ah (T7 i w1.heap.size T) []).tmps)=true:=by unfold aa;rw[jN]
 have J8:(ah (T7 i w1.heap.size T) []).eval (.tmp 12)=.pointer (some ⟨w1.heap.size,0,none⟩):=ze (by simp[hT.size]);have b20:(ah (T7 i w1.heap.size T) []).eval (.tmp 20)=.int .i64 i:=(ql (by omega)).trans (ze (by simp[hT.size]));refine WG.step rfl λw2 e2=>?_;have iQ:w2.cell? ⟨w1.heap.size,0,none⟩=some (.int .i64 0)/\w2.frozen? ⟨w1.heap.size,0,none⟩=false:=by
  have h:=e2.keep w1.heap.size (.inr rfl);obtain⟨g1,g2⟩:=XP (w:=w1);unfold aE at g1⊢;unfold bT at g2⊢;rw[h];exact⟨g1,g2⟩
 have hst:=jbd (e:=(ah (T7 i w1.heap.size T) []).eval) zD J8 b20 iQ.1 iQ.2;have rQ:=stepG_none (P:=prog) (main:=true) (b:=bS) (k:=.code (.seq (.region 8 R8 false) (.region 9 R9 false))::k) (cs:=cs) (rest:=[]) vG KF (by decide) hst.1;have nC:listed prog bS.fn (ah (T7 i w1.heap.size T) []) o2 w2=#[⟨.cell ⟨w1.heap.size,0,none⟩,true,false⟩]:=by
  unfold listed;rw[hst.2];exact seen_eq jgj (by simp)
 rw[nC,Ni]at rQ;refine⟨_,_,_,_,_,rQ,S9 (UC.ext e2) (.inr rfl),?_⟩;have Cr:=Ro (S9 (v:=.int .i64 i) (UC.ext e2) (.inr rfl:(λb=>O b\/b=w1.heap.size) w1.heap.size));change WG _ _ _ _ _ (G (bS.at ⟨T7 i w1.heap.size T,[]⟩ (.inRegion R7 []::_)) cs) _;refine WG.ctl rfl Cr (λw1=>am) ?_;refine WG.ctl rfl Cr (λw1=>aB) ?_;refine WG.ctl rfl Cr (λw1=>ay) ?_;change WG _ _ _ _ _ (G (bS.at ⟨T7 i w1.heap.size T,[]⟩ (.inRegion R8 [0]::_)) cs) _;refine n w1.heap.size _ ?_ e1.size ?_ Cr
 ·refine e1.trans ⟨?_,λb hb=>?_⟩
  ·have:=e2.size;rw[(aR w2 ⟨w1.heap.size,0,none⟩ (.int .i64 i)).size];rw[LK]at this;omega
  ·have dW:=xC.low b hb;rw[(aR w2 ⟨w1.heap.size,0,none⟩ (.int .i64 i)).block b (λ(e:b=w1.heap.size)=>by omega),e2.keep b (.inl hb)];show(w1.heap.push _)[b]?=_;rw[aj,if_neg (Nat.ne_of_lt dW)]
 ·have h0:w2.heap[w1.heap.size]?=some (.cells #[.int .i64 0] 3 (0,0)):=by
   rw[e2.keep _ (.inr rfl)];show(w1.heap.push _)[_]?=_;rw[aj,if_pos rfl]
  have hb:(w2.setCell ⟨w1.heap.size,0,none⟩ (.int .i64 i)).heap[w1.heap.size]?=some (.cells (#[.int .i64 0].setIfInBounds 0 (.int .i64 i)) 3):=by
   rw[setCell_eq_setRow w2 w1.heap.size 0 #[.int .i64 0] _ (0,0) _ h0,setRow_heap w2 w1.heap.size _ _ _ _ h0]
  simp[aE,hb]
end
section
variable {mo:ag} {cb fb tb C Wg:Nat} {k:List Item} {cs:List ak} {qw:Nat->Blocks->ag->ae->Prop} {K:al->ae->Prop}
theorem jiq {T:Array ag} (hi:i<4) (hT:ScH mo cb fb tb C Wg i T) (hF:FOk F O w)
  (n:∀T',ScH mo cb fb tb C Wg (i+1) T'->WG prog true Stop F O (G (bS.at ⟨T',[]⟩ (.code sL::.inLoop sL::k)) cs) w):
  WG prog true Stop F O (G (bS.at ⟨T9 Wg cb kb fb tb C (T7 i kb T),[]⟩ (.inRegion R9 []::.inBlock 1::.code (.region 10 R10 false)::.inLoop sL::k)) cs) w:=by
 refine WG.ctl rfl hF (λw1=>am) ?_;refine WG.ctl rfl hF (λw1=>bU) ?_;refine WG.ctl rfl hF (λw1=>ay) ?_;have eT:(T9 Wg cb kb fb tb C (T7 i kb T)).size=42:=by simp[T9,T7,hT.size]
 have g:∀j,j≠12->j≠19->j≠20->j≠21->j≠22->(T9 Wg cb kb fb tb C (T7 i kb T)).getD j ac=T.getD j ac:=λj a b c d e=>by
  unfold T9 T7;rw[ql (aQ e),ql (aQ d),ql (aQ a),ql (aQ c),ql (aQ b)]
 have g4:=(g 4 (by decide) (by decide) (by decide) (by decide) (by decide)).trans hT.t4;have g5:=(g 5 (by decide) (by decide) (by decide) (by decide) (by decide)).trans hT.t5;have g6:=(g 6 (by decide) (by decide) (by decide) (by decide) (by decide)).trans hT.t6;have g10:=(g 10 (by decide) (by decide) (by decide) (by decide) (by decide)).trans hT.t10;have g11:=(g 11 (by decide) (by decide) (by decide) (by decide) (by decide)).trans hT.t11;have g3:=(g 3 (by decide) (by decide) (by decide) (by decide) (by decide)).trans hT.t3;have g18:=(g 18 (by decide) (by decide) (by decide) (by decide) (by decide)).trans hT.t18;generalize T9 Wg cb kb fb tb C (T7 i kb T)=U at*;change WG _ _ _ _ _ (G (bS.at ⟨U,[]⟩ (.inRegion R10 [0,1]::_)) cs) w;obtain⟨o,ho,dU,hd,hg⟩:∃o,R10[0]?=some o/\o.op=.binOp .add 3 (.tmp 18) (.const (.int .i64 1)) 3/\o.dst=some 23/\o.guard=none:=⟨_,rfl,rfl,rfl,rfl⟩
 have dQ:aa o (ax R10 (ah U []).tmps)=true:=by unfold aa;rw[hg]
 refine WG.value (.int .i64 ((i+1:Nat):Int)) hF ho dQ (by decide) (λw1 _=>?_) ?_
 ·have AJ:(ah U []).eval (.tmp 18)=.int .i64 i:=g18;have bc:(ah U []).eval (.const (.int .i64 1))=.int .i64 1:=rfl;have mh:IntKind.i64.wrap ((i:Int)+1)=((i+1:Nat):Int):=by rw[IntKind.wrap_i64];omega
  generalize (ah U []).eval=e at*;unfold ai;constructor
  ·simp[go_sem,dU,AJ,bc,mh]
  ·simp[go_sem,dU,AJ,bc]
 rw[hd];change WG _ _ _ _ _ (G (bS.at ⟨U.setIfInBounds 23 (.int .i64 ((i+1:Nat):Int)),[]⟩ (.inRegion R10 [1]::_)) cs) w;obtain⟨o1,vH,iJ,hd1,jB⟩:∃o,R10[1]?=some o/\o.op=.move (.tmp 23)/\o.dst=some 18/\o.guard=none:=⟨_,rfl,rfl,rfl,rfl⟩
 have BI:aa o1 (ax R10 (ah (U.setIfInBounds 23 (.int .i64 ((i+1:Nat):Int))) []).tmps)=true:=by unfold aa;rw[jB]
 refine WG.value (.int .i64 ((i+1:Nat):Int)) hF vH BI (by decide) (λw1 _=>?_) ?_
 ·have U2:(ah (U.setIfInBounds 23 (.int .i64 ((i+1:Nat):Int))) []).eval (.tmp 23)=.int .i64 ((i+1:Nat):Int):=ze (by rw[eT];omega);generalize (ah (U.setIfInBounds 23 (.int .i64 ((i+1:Nat):Int))) []).eval=e at*;unfold ai;constructor
  ·simp[go_sem,iJ,U2]
  ·simp[go_sem,iJ,U2]
 rw[hd1];change WG _ _ _ _ _ (G (bS.at ⟨(U.setIfInBounds 23 (.int .i64 ((i+1:Nat):Int))).setIfInBounds 18 (.int .i64 ((i+1:Nat):Int)),[]⟩ (.inRegion R10 []::_)) cs) w;refine WG.ctl rfl hF (λw1=>am) ?_;refine WG.ctl rfl hF (λw1=>stepG_inLoop) ?_;refine n _ ⟨by simp[eT],?_,?_,?_,?_,?_,?_,?_⟩
 ·rw[ql (by decide),ql (by decide)];exact g4
 ·rw[ql (by decide),ql (by decide)];exact g5
 ·rw[ql (by decide),ql (by decide)];exact g6
 ·rw[ql (by decide),ql (by decide)];exact g10
 ·rw[ql (by decide),ql (by decide)];exact g11
 ·exact ze (by simp[eT])
 ·rw[ql (by decide),ql (by decide)];exact g3
theorem E8 {T:Array ag} (a:j≠12) (b:j≠19) (c:j≠20):(T7 i kb T).getD j ac=T.getD j ac:=by
 unfold T7;rw[ql (aQ a),ql (aQ c),ql (aQ b)]
theorem ScH.t7 {T:Array ag} (hT:ScH mo cb fb tb C Wg i T):ScT kb cb fb tb C Wg (T7 i kb T):=
 ⟨by simp[T7,hT.size],(E8 (by decide) (by decide) (by decide)).trans hT.t4,(E8 (by decide) (by decide) (by decide)).trans hT.t5,(E8 (by decide) (by decide) (by decide)).trans hT.t6,(E8 (by decide) (by decide) (by decide)).trans hT.t10,
  (E8 (by decide) (by decide) (by decide)).trans hT.t11,by unfold T7;exact ze (by simp[hT.size])⟩
theorem starter {Fx:Blocks->ae->Prop} (hx:∀F w w1,Fx F w->Ext F w w1->Fx F w1) (hxm:∀F F' w,Fx F w->(∀b,F b->F' b)->Fx F' w)
  (hs:∀i:Nat,i<4->∀F w kb,Fx F w->FOk F (λ_=>False) w->F kb->w.cell? ⟨kb,0,none⟩=some (.int .i64 i)->Script prog link.tWg Wg C 4 qw i F (born prog (xV Wg cb kb fb tb C)) w)
  (h0:∀F O w T,ScH mo cb fb tb C Wg 4 T->FOk F O w->Fx F w->¬F Wg->WG prog true (Scr prog link.tWg Wg C 4 qw K 0) F O (G (bS.at ⟨T,[]⟩ (.code sL::.inLoop sL::k)) cs) w):
  ∀r i,i+r=4->∀T F O w,ScH mo cb fb tb C Wg i T->FOk F O w->Fx F w->¬F Wg->Wg<w.heap.size->WG prog true (Scr prog link.tWg Wg C 4 qw K r) F O (G (bS.at ⟨T,[]⟩ (.code sL::.inLoop sL::k)) cs) w:=by
 intro r;induction r with
 |zero=>
  intro i hi T F O w hT hF hX hW _;obtain rfl:i=4:=by omega
  exact h0 F O w T hT hF hX hW
 |succ r ih=>
  intro i hi T F O w hT hF hX hW dW;have xB:i<4:=by omega
  refine Sk hT hF (b:=true) (xdt (by omega)) ?_;refine WG.ctl rfl hF (λw1=>cM) ?_;refine WG.ctl rfl hF (λw1=>aB) ?_;refine WG.ctl rfl hF (λw1=>bo) ?_;refine jip hT hF λkb w3 e3 iY iQ Cr=>?_;obtain⟨o,ho,dU,hd,hg⟩:∃o,R8[0]?=some o/\o.op=.call {callee:=.value (.func 23),args:=#[.tmp 11,.const (.int .i64 1)],argTypes:=#[85,3]}/\o.dst=some 21/\o.guard=none:=⟨_,rfl,rfl,rfl,rfl⟩
  have dQ:aa o (ax R8 (ah (T7 i kb T) []).tmps)=true:=by unfold aa;rw[hg]
  have ev:∀w1,(ai (ah (T7 i kb T) []).eval o).run prog w1=.ok (.enter 23 #[.pointer (some ⟨Wg,0,none⟩),.int .i64 1]) w1/\(ai (ah (T7 i kb T) []).eval o).events prog w1 #[]=#[]:=λw1=>by
   have AO:(ah (T7 i kb T) []).eval (.tmp 11)=.pointer (some ⟨Wg,0,none⟩):=(hT.t7 (kb:=kb)).t11;have bc:(ah (T7 i kb T) []).eval (.const (.int .i64 1))=.int .i64 1:=rfl;have bf:(ah (T7 i kb T) []).eval (.func 23)=.func (.func 23) #[] #[]:=rfl;generalize (ah (T7 i kb T) []).eval=e at*;unfold ai;constructor
   ·simp[go_sem,dU,AO,bc,bf]
   ·simp[go_sem,dU,AO,bc,bf];simp[cL,go_sem,func23,Try.f23]
  refine WG.quiet rfl Cr λw4 e4=>⟨_,0,_,bM ho dQ (by decide) (ev w4).1,λe' he=>?_,?_⟩
  ·have:=bj he;rw[(ev w4).2]at this;simp at this
  refine WG.stop λw5 e5=>⟨rfl,λhl=>?_⟩
  have Uv:Fx (λb=>F b\/b=kb) w5:=hx _ _ _ (hx _ _ _ (hxm F _ _ (hx _ _ _ hX e3) (λb hb=>.inl hb)) e4) e5;have Gv:¬(λb=>F b\/b=kb) Wg:=λh=>h.elim hW λe=>by omega
  have hF5:=(Cr.ext e4).ext e5;have hc5:w5.cell? ⟨kb,0,none⟩=some (.int .i64 i):=(yw (a:=⟨kb,0,none⟩) ((e4.trans e5).keep kb (.inr rfl))).trans iQ;have Ot:Wg<w5.heap.size:=xll (xll dW e3.size) (xlt e4.size e5.size);have Nt:FOk (λb=>F b\/b=kb) (λ_=>False) w5:=⟨hF5.low,λ_ h=>h.elim⟩
  have e0:4-(r+1)=i:=by omega
  rw[e0];exact sAdd hT.t7 Gv hl (λw6 e6 _=>hs i xB _ w6 kb (hx _ _ _ Uv e6) (Nt.ext e6) (.inr rfl) ((yw (a:=⟨kb,0,none⟩) (e6.keep kb (.inr rfl))).trans hc5))
   (λw6 e6=>jiq xB hT (Nt.ext e6) λT' uE=>ih (i+1) (by omega) T' _ _ w6 uE (Nt.ext e6) (hx _ _ _ Uv e6) Gv (xll Ot e6.size))
end
section
variable {P:aK} {ty:co} {Wg:Nat} {F:Blocks} {A K K':al->ae->Prop}
theorem BF.mono (hk:∀g w,K g w->K' g w) (h:BF P ty Wg F K g w):BF P ty Wg F K' g w:=
 MG.mono h λ_ _ h1=>h1.keep λ_ h2=>MG.mono h2 λ_ _ h3=>h3.keep λ_ h4=>hk _ _ h4
theorem BG.mono (hk:∀g w,K g w->K' g w) (h:BG P ty Wg F K g w):BG P ty Wg F K' g w:=
 ⟨h.1,λhw=>let⟨g',a,b⟩:=h.2 hw;⟨g',a,BF.mono hk b⟩⟩
theorem wM.mono (hk:∀g w,K g w->K' g w) (h:wM P ty Wg F K g w):wM P ty Wg F K' g w:=
 ⟨h.1,h.2.1,h.2.2.1,λhw=>let⟨g',a,b⟩:=h.2.2.2 hw;⟨g',a,MG.mono b λ_ _ h=>BG.mono hk h⟩⟩
theorem BH.mono (hk:∀g w,K g w->K' g w) {vs:Nat} (h:BH P ty Wg F A K vs g w):BH P ty Wg F A K' vs g w:=
 ⟨h.1,λv hv hw=>⟨λe=>let⟨g',a,b⟩:=(h.2 v hv hw).1 e;⟨g',a,MG.mono b λ_ _ h=>h.keep λ_ h=>MG.mono h λ_ _ h=>wM.mono hk h⟩,(h.2 v hv hw).2⟩⟩
theorem pK.mono (hk:∀g w,K g w->K' g w) (h:pK P ty Wg F A K g w):pK P ty Wg F A K' g w:=
 ⟨h.1,λv hv hw=>let⟨g',a,b,c⟩:=h.2 v hv hw;⟨g',a,λe=>BF.mono hk (b e),λe=>MG.mono (c e) λ_ _ h=>BH.mono hk h⟩⟩
end
noncomputable def sT:Code:=match sR with|.seq _ c=>c|_=>.skip
noncomputable def R11:Array Oper:=match sR with|.seq a _=>rg a|_=>#[]
theorem jir:sR=.seq (.region 11 R11 false) sT:=rfl
section
variable {mo:ag} {cb fb tb C Wg:Nat} {k:List Item} {cs:List ak} {qw:Nat->Blocks->ag->ae->Prop}
def Behind (mo:ag) (cb fb tb C Wg:Nat) (k:List Item) (cs:List ak) (T0:Array ag) (g:al) (_:ae):Prop:=g=G (bS.at ⟨T0.setIfInBounds 24 (.tuple #[]),[]⟩ (.code sT::k)) cs/\ScH mo cb fb tb C Wg 4 T0
def KS (mo:ag) (cb fb tb C Wg:Nat) (k:List Item) (cs:List ak) (g:al) (w:ae):Prop:= ∃F T,MG prog link.tWg Wg F (Behind mo cb fb tb C Wg k cs T) g w
theorem jiu {T0:Array ag} (yV:ScH mo cb fb tb C Wg 4 T0) (hF:FOk F O w):
  WG prog true (Scr prog link.tWg Wg C 4 qw (KS mo cb fb tb C Wg k cs) 0) F O (G (bS.at ⟨T0,[]⟩ (.code sL::.inLoop sL::.inBlock 0::.code sR::k)) cs) w:=by
 refine Sk yV hF (b:=false) (xdf (by decide)) ?_;refine WG.ctl rfl hF (λw1=>stepG_exit rfl) ?_;rw[jir];refine WG.ctl rfl hF (λw1=>aB) ?_;refine WG.ctl rfl hF (λw1=>ay) ?_;have hT:ScH mo cb fb tb C Wg 4 (T0.setIfInBounds 19 (.bool false)):=⟨by simp[yV.size],(ql (by decide)).trans yV.t4,(ql (by decide)).trans yV.t5,(ql (by decide)).trans yV.t6,(ql (by decide)).trans yV.t10,(ql (by decide)).trans yV.t11,(ql (by decide)).trans yV.t18,(ql (by decide)).trans yV.t3⟩
 change WG _ _ _ _ _ (G (bS.at ⟨T0.setIfInBounds 19 (.bool false),[]⟩ (.inRegion R11 [0]::_)) cs) w;generalize T0.setIfInBounds 19 (.bool false)=T at*;obtain⟨o,ho,dU,hd,hg⟩:∃o,R11[0]?=some o/\o.op=.call {callee:=.value (.func 27),args:=#[.tmp 11],argTypes:=#[85]}/\o.dst=some 24/\o.guard=none:=⟨_,rfl,rfl,rfl,rfl⟩
 have dQ:aa o (ax R11 (ah T []).tmps)=true:=by unfold aa;rw[hg]
 have ev:∀w1,(ai (ah T []).eval o).run prog w1=.ok (.enter 27 #[.pointer (some ⟨Wg,0,none⟩)]) w1/\(ai (ah T []).eval o).events prog w1 #[]=#[]:=λw1=>by
  have AO:(ah T []).eval (.tmp 11)=.pointer (some ⟨Wg,0,none⟩):=hT.t11;have bf:(ah T []).eval (.func 27)=.func (.func 27) #[] #[]:=rfl;generalize (ah T []).eval=e at*;unfold ai;constructor
  ·simp[go_sem,dU,AO,bf]
  ·simp[go_sem,dU,AO,bf];simp[cL,go_sem,func27,Try.f27]
 refine WG.quiet rfl hF λw4 e4=>⟨_,0,_,bM ho dQ (by decide) (ev w4).1,λe' he=>?_,?_⟩
 ·have:=bj he;rw[(ev w4).2]at this;simp at this
 refine WG.stop λw5 e5=>⟨rfl,λhl=>?_⟩
 refine⟨Anch link Wg (bS.at ⟨T,[]⟩ (.inRegion R11 [0]::.code sT::k)) cs,λg w h=>by obtain⟨T,rfl,_⟩:=h;rfl,λg w h=>?_,?_⟩
 ·have h1:=waitRound (F:=F) Ho (K:=Behind mo cb fb tb C Wg k cs T) (mT:=1) (b₀:=bS) (a₀:=⟨T,[]⟩) (ops₀:=R11) (i₀:=0) (rest₀:=[]) (k₀:=.code sT::k) (cs:=cs) (λw _=>by
   refine Goes.step rfl λw1 _=>?_;rw[am];simp only[bm]
   exact⟨⟨rfl,rfl⟩,λ_ _=>⟨rfl,hT⟩⟩) g w h
  exact MG.mono h1 λg w h=>pK.mono (λg w h=>⟨F,T,h⟩) h
 ·have h2:=waitStart (F:=F) (cs:=cs) Ho (c:=bS.at ⟨T,[]⟩ (.inRegion R11 [0]::.code sT::k)) w5 hl;rw[enter_at _ func27 (show Try.f27.body=some (body_wait link)from rfl)]
  walk_nrmf Try.f27
  exact h2
end
theorem Yc {mo:ag} {fb C Wg o L0:Nat} {a:al} {w0:ae} {D:Nat->WX} {FM:Blocks}
  (hJ:Joined prog o Wg C 4 SB qw (KS mo cb fb tb C Wg k cs) L0 w0 gs a w t D FM q):
  ∃(N:Nat) (eH:Array al) (T:Array ag) (d:Nat) (sl':Option (Nat×Nat)) (t':br) (q':Nat->Nat),runNT prog N (crowd gs w sl) t=(.next (crowd eH (w.at d) sl'),t')/\eH.size=gs.size/\
   eH[0]?=some (G (bS.at ⟨T.setIfInBounds 24 (.tuple #[]),[]⟩ (.code sT::k)) cs)/\ScH mo cb fb tb C Wg 4 T/\bE prog t' eH q'/\vz (λb=>SB b\/b=Wg) (w.at d) eH.size t':=by
 obtain⟨F,T,m,hg⟩:=hJ.k;obtain⟨N,eH,a',d,sl',t',q',h1,h2,h3,⟨h4,h5⟩,h6,h7⟩:=Yb (P:=prog) (SB:=λb=>SB b\/b=Wg) (R:=RM link.tWg Wg F) (Stop:=Behind mo cb fb tb C Wg k cs T) (λw d=>⟨⟨jm _,λ_ _=>rfl⟩,id⟩) (λg w h=>by rw[h.1];rfl) m gs a w sl t q hJ.main hJ.leavers hJ.past hg;subst h4;exact⟨N,eH,T,d,sl',t',q',h1,h2,h3,h5,h6,h7⟩
end
section
open Go Go.Conc Go.ConcN Sim
section
variable {X:Cx} {Fb:aC->Bool} {sp:aC->Bool}
theorem q5u (nS:X.P'=X.P) (S:X.Set Fb true sp) {v:ag} (fu:jL X.P X.P' Fb true o=true) (he:EvR X.F Fb ρ e e) (hw:WR X ρ w w) (hr:(ai e o).run X.P w=.ok (.value v) w1):
  ∃ρ1,ρ.le ρ1/\WR X ρ1 w1 w1/\VR X.F ρ1 v v/\sS (rng ρ) (own X ρ) w (rng ρ1) (own X ρ1) w1 ((ai e o).events X.P w #[])/\(NB w->NB w1):=by
 have hs:=SS.execOp S.ok true S.wrs o fu e e he;obtain⟨ρ1,a',fQ,gq,h1,h2,h3,h4,h5,h6,h7⟩:=hs.1 w w _ w1 #[] hw hr;rw[nS]at h1;have e1:=congrArg Prod.fst h1;rw[Sem.runT_fst,hr]at e1;have e1:(Result.ok (Next.value v) w1:Result Next)=.ok a' fQ:=e1;injection e1 with ea ew;subst ea;subst ew;have ee:(ai e o).events X.P w #[]=gq:=by
  have:=congrArg Prod.snd h1;simpa[Sem.runT_eq]using this
 cases h6 with
 |value hv=>exact⟨ρ1,h3.le,h2,hv,by rw[ee];exact FI hw h3 h2 h5,λ_=>trivial⟩
end
end
section
open Go.Conc Go.ConcN Go.RowKit Go.Conc.Lib Go.ConcR.Gen Go.ConcN.Gen Go Sim
open Go.ConcR (KK wgBlock WgAt stA smA rd wr mk Payload Aside2 DC0 ofEvent_cell)
def wN (w:ae):ae:={w with heap:=w.heap.push (wgBlock link.tWg 0 0)}
theorem P6 (dU:o.op=.alloc 85) (w:ae):(ai e o).run prog w=.ok (.value (.pointer (some ⟨w.heap.size,0,none⟩))) (wN w)/\(ai e o).events prog w #[]=#[]:=by
 unfold ai;constructor
 ·simp[go_sem,dU,wN,Instr.alloc,wgBlock]
 ·simp[go_sem,dU,Instr.alloc]
theorem Xe:WgAt link.tWg w.heap.size (wN w) 0 0:=by
 show(w.heap.push _)[_]?=_;rw[aj,if_pos rfl]
noncomputable def R4:Array Oper:=match rH with|.seq _ (.seq _ (.seq _ (.seq a _)))=>rg a|_=>#[]
theorem XQ {a:Act} (h0:gs[0]?=some (G (bS.at a (.inRegion R4 [0]::k)) cs)) (hL:bE prog t gs q) (hP:vz SB w gs.size t):
  ∃(eH:Array al) (d:Nat) (sl':Option (Nat×Nat)) (t':br) (q':Nat->Nat),Runs prog gs w sl t eH (wN (w.at d)) sl' t'/\eH.size=gs.size/\eH[0]?=some (G (bS.at (a.put (some 11) (.pointer (some ⟨w.heap.size,0,none⟩))) (.inRegion R4 []::k)) cs)/\
   bE prog t' eH q'/\vz SB (wN (w.at d)) eH.size t'/\WgAt link.tWg w.heap.size (wN (w.at d)) 0 0/\∀x:Addr,x.block=w.heap.size->nP t' (.cell x):=by
 obtain⟨o,ho,dU,hd,hg⟩:∃o,R4[0]?=some o/\o.op=.alloc 85/\o.dst=some 11/\o.guard=none:=⟨_,rfl,rfl,rfl,rfl⟩
 have dQ:aa o (ax R4 a.tmps)=true:=by unfold aa;rw[hg]
 have hs:∀d,aT prog true (G (bS.at a (.inRegion R4 [0]::k)) cs) (w.at d)=.go (G (bS.at (a.put (some 11) (.pointer (some ⟨w.heap.size,0,none⟩))) (.inRegion R4 []::k)) cs) (wN (w.at d)) #[]:=λd=>by
  have hl:listed prog bS.fn a o (w.at d)=#[]:=by unfold listed;rw[(P6 dU _).2,bA]
  have:=aU (P:=prog) (main:=true) (b:=bS) (k:=k) (cs:=cs) (rest:=[]) ho dQ (by decide) (P6 (e:=a.eval) dU (w.at d)).1;rw[hl,hd]at this;exact this
 have eT:∀d,(wN (w.at d)).heap.size=w.heap.size+1:=λd=>by
  show(w.heap.push _).size=_;rw[Array.size_push]
 obtain⟨N,eH,a',d,w',es,sl',t',q',h1,h2,h3,h4,h5,h6,h7⟩:=BS (P:=prog) (SB:=SB) (sl:=sl) h0 rfl hL hP λd=>⟨_,_,_,hs d,by rw[eT];exact Nat.le_succ _,by simp⟩
 rw[hs d]at h2;injection h2 with e1 e2 e3;subst e1;subst e2;subst e3;refine⟨eH,d,sl',t',q',⟨N,h1⟩,h3,h4,h5,h6,Xe (w:=w.at d),λx hx=>h7 _ (Rz (B:=w.heap.size) (λop dU=>hP.seen op dU) (by omega)) (by simp)⟩
end
section
open Go Go.Conc Go.ConcN Sim
section
variable {P:aK} {b:ak} {a:Act} {k:List Item} {cs fI:List ak} {ops:Array Oper} {i:Nat} {rest:List Nat} {o:Oper} {fr jk dY:ak}
theorem Sil.ctl (h:∀w,aT P true (G fr cs) w=.go (G jk cs) w #[]) (n:Sil P jk cs dY fI):Sil P fr cs dY fI:=.step h n
theorem Sil.value (v:ag) (ho:ops[i]?=some o) (hw:aa o (ax ops a.tmps)=true) (hk:b.kind≠.early)
  (hr:∀w,(ai a.eval o).run P w=.ok (.value v) w/\(ai a.eval o).events P w #[]=#[])
  (n:Sil P (b.at (a.put o.dst v) (.inRegion ops rest::k)) cs dY fI):Sil P (b.at a (.inRegion ops (i::rest)::k)) cs dY fI:=
 .step (λw=>by
  rw[aU ho hw hk (hr w).1];unfold listed
  rw[(hr w).2,bA]) n
end
noncomputable def R12:Array Oper:=match sT with|.seq a _=>rg a|_=>#[]
noncomputable def sT2:Code:=match sT with|.seq _ c=>c|_=>.skip
noncomputable def R13:Array Oper:=match sT2 with|.seq (.seq a _) _=>rg a|_=>#[]
noncomputable def tL:Code:=match sT2 with|.seq (.seq _ (.block _ (.loop c))) _=>c|_=>.skip
noncomputable def tE:Code:=match sT2 with|.seq _ c=>c|_=>.skip
theorem jit:sT=.seq (.region 12 R12 false) sT2:=rfl
theorem jbe:sT2=.seq (.seq (.region 13 R13 false) (.block 2 (.loop tL))) tE:=rfl
noncomputable def tIn:Code:=match tL with|.seq _ (.seq _ (.seq (.block _ c) _))=>c|_=>.skip
noncomputable def R14:Array Oper:=match tL with|.seq a _=>rg a|_=>#[]
noncomputable def R17:Array Oper:=match tL with|.seq _ (.seq _ (.seq _ a))=>rg a|_=>#[]
noncomputable def R15:Array Oper:=match tIn with|.seq a _=>rg a|_=>#[]
noncomputable def R16:Array Oper:=match tIn with|.seq _ a=>rg a|_=>#[]
noncomputable def R18:Array Oper:=match tE with|.seq a _=>rg a|_=>#[]
theorem ji0:tL=.seq (.region 14 R14 false) (.seq (.cond (.tmp 27) .skip (.exit 2)) (.seq (.block 3 tIn) (.region 17 R17 false))):=rfl
theorem jbo:tIn=.seq (.region 15 R15 false) (.region 16 R16 false):=rfl
theorem jiz:tE=.seq (.region 18 R18 false) .ret:=rfl
section
variable {T:Array ag} {k:List Item} {cs:List ak}
theorem ji3:Sil prog (bS.at ⟨T,[]⟩ (.code sT::k)) cs (bS.at ⟨T.setIfInBounds 13 (.slice none 0 0),[]⟩ (.inRegion R13 [0,1]::.code (.block 2 (.loop tL))::.code tE::k)) cs:=by
 rw[jit];refine Sil.ctl (λw1=>aB) ?_;refine Sil.ctl (λw1=>ay) ?_;change Sil _ (bS.at ⟨T,[]⟩ (.inRegion R12 [0]::_)) _ _ _;obtain⟨o,ho,dU,hd,hg⟩:∃o,R12[0]?=some o/\o.op=.assign (.const (.slice none 0 0))/\o.dst=some 13/\o.guard=none:=⟨_,rfl,rfl,rfl,rfl⟩
 have dQ:aa o (ax R12 (ah T []).tmps)=true:=by unfold aa;rw[hg]
 refine Sil.value (.slice none 0 0) ho dQ (by decide) (λw=>?_) ?_
 ·have bc:(ah T []).eval (.const (.slice none 0 0))=.slice none 0 0:=rfl;generalize (ah T []).eval=e at*;unfold ai;constructor
  ·simp[go_sem,dU,bc]
  ·simp[go_sem,dU,bc]
 rw[hd];change Sil _ (bS.at ⟨T.setIfInBounds 13 (.slice none 0 0),[]⟩ (.inRegion R12 []::_)) _ _ _;refine Sil.ctl (λw1=>am) ?_;rw[jbe];refine Sil.ctl (λw1=>aB) ?_;refine Sil.ctl (λw1=>aB) ?_;refine Sil.ctl (λw1=>ay) ?_;exact Sil.refl _ _
theorem SK (eT:T.size=42) (nH:T.getD 26 ac=.int .i64 i) {b:Bool} (hb:decide ((i:Int)<4)=b):
  Sil prog (bS.at ⟨T,[]⟩ (.code tL::k)) cs (bS.at ⟨T.setIfInBounds 27 (.bool b),[]⟩ (.code (if b then .skip else .exit 2)::.code (.seq (.block 3 tIn) (.region 17 R17 false))::k)) cs:=by
 rw[ji0];refine Sil.ctl (λw1=>aB) ?_;refine Sil.ctl (λw1=>ay) ?_;change Sil _ (bS.at ⟨T,[]⟩ (.inRegion R14 [0]::_)) _ _ _;obtain⟨o,ho,dU,hd,hg⟩:∃o,R14[0]?=some o/\o.op=.binOp .lss 3 (.tmp 26) (.const (.int .i64 4)) 3/\o.dst=some 27/\o.guard=none:=⟨_,rfl,rfl,rfl,rfl⟩
 have dQ:aa o (ax R14 (ah T []).tmps)=true:=by unfold aa;rw[hg]
 refine Sil.value (.bool b) ho dQ (by decide) (λw1=>?_) ?_
 ·have AB:(ah T []).eval (.tmp 26)=.int .i64 i:=nH;have bc:(ah T []).eval (.const (.int .i64 4))=.int .i64 4:=rfl;generalize (ah T []).eval=e at*;unfold ai;constructor
  ·simp[go_sem,dU,AB,bc,hb]
  ·simp[go_sem,dU,AB,bc]
 rw[hd];change Sil _ (bS.at ⟨T.setIfInBounds 27 (.bool b),[]⟩ (.inRegion R14 []::_)) _ _ _;refine Sil.ctl (λw1=>am) ?_;refine Sil.ctl (λw1=>aB) ?_;have hc:(ah (T.setIfInBounds 27 (.bool b)) []).eval (.tmp 27)=.bool b:=ze (by rw[eT];omega);exact Sil.ctl (λw1=>stepG_cond hc) (Sil.refl _ _)
theorem tEnd {v:ag} (eT:T.size=42) (J5:T.getD 13 ac=v):
  Sil prog (bS.at ⟨T,[]⟩ (.code tE::k)) cs {bS.at ⟨((T.setIfInBounds 41 v).setIfInBounds 8 v).setIfInBounds 9 (.int .i64 0),[]⟩ (.code .ret::k)with mode:=.returning} cs:=by
 rw[jiz];refine Sil.ctl (λw1=>aB) ?_;refine Sil.ctl (λw1=>ay) ?_;change Sil _ (bS.at ⟨T,[]⟩ (.inRegion R18 [0,1,2]::_)) _ _ _;obtain⟨o,ho,dU,hd,hg⟩:∃o,R18[0]?=some o/\o.op=.move (.tmp 13)/\o.dst=some 41/\o.guard=none:=⟨_,rfl,rfl,rfl,rfl⟩
 have dQ:aa o (ax R18 (ah T []).tmps)=true:=by unfold aa;rw[hg]
 refine Sil.value v ho dQ (by decide) (λw1=>?_) ?_
 ·have AL:(ah T []).eval (.tmp 13)=v:=J5;generalize (ah T []).eval=e at*;unfold ai;constructor
  ·simp[go_sem,dU,AL]
  ·simp[go_sem,dU,AL]
 rw[hd];change Sil _ (bS.at ⟨T.setIfInBounds 41 v,[]⟩ (.inRegion R18 [1,2]::_)) _ _ _;obtain⟨o1,vH,iJ,hd1,jB⟩:∃o,R18[1]?=some o/\o.op=.assign (.tmp 41)/\o.dst=some 8/\o.guard=none:=⟨_,rfl,rfl,rfl,rfl⟩
 have BI:aa o1 (ax R18 (ah (T.setIfInBounds 41 v) []).tmps)=true:=by unfold aa;rw[jB]
 refine Sil.value v vH BI (by decide) (λw1=>?_) ?_
 ·have UL:(ah (T.setIfInBounds 41 v) []).eval (.tmp 41)=v:=ze (by rw[eT];omega);generalize (ah (T.setIfInBounds 41 v) []).eval=e at*;unfold ai;constructor
  ·simp[go_sem,iJ,UL]
  ·simp[go_sem,iJ,UL]
 rw[hd1];change Sil _ (bS.at ⟨(T.setIfInBounds 41 v).setIfInBounds 8 v,[]⟩ (.inRegion R18 [2]::_)) _ _ _;obtain⟨o2,vG,zD,Ni,jN⟩:∃o,R18[2]?=some o/\o.op=.assign (.const (.int .i64 0))/\o.dst=some 9/\o.guard=none:=⟨_,rfl,rfl,rfl,rfl⟩
 have KF:aa o2 (ax R18 (ah ((T.setIfInBounds 41 v).setIfInBounds 8 v) []).tmps)=true:=by unfold aa;rw[jN]
 refine Sil.value (.int .i64 0) vG KF (by decide) (λw1=>?_) ?_
 ·have bc:(ah ((T.setIfInBounds 41 v).setIfInBounds 8 v) []).eval (.const (.int .i64 0))=.int .i64 0:=rfl;generalize (ah ((T.setIfInBounds 41 v).setIfInBounds 8 v) []).eval=e at*;unfold ai;constructor
  ·simp[go_sem,zD,bc]
  ·simp[go_sem,zD,bc]
 rw[Ni];change Sil _ (bS.at ⟨((T.setIfInBounds 41 v).setIfInBounds 8 v).setIfInBounds 9 (.int .i64 0),[]⟩ (.inRegion R18 []::_)) _ _ _;refine Sil.ctl (λw1=>am) ?_;exact Sil.ctl (λw1=>rfl) (Sil.refl _ _)
theorem ji2 (hi:i<4) (eT:T.size=42) (nH:T.getD 26 ac=.int .i64 i):
  Sil prog (bS.at ⟨T,[]⟩ (.inRegion R16 []::.inBlock 3::.code (.region 17 R17 false)::.inLoop tL::k)) cs (bS.at ⟨(T.setIfInBounds 40 (.int .i64 ((i+1:Nat):Int))).setIfInBounds 26 (.int .i64 ((i+1:Nat):Int)),[]⟩ (.code tL::.inLoop tL::k)) cs:=by
 refine Sil.ctl (λw1=>am) ?_;refine Sil.ctl (λw1=>bU) ?_;refine Sil.ctl (λw1=>ay) ?_;change Sil _ (bS.at ⟨T,[]⟩ (.inRegion R17 [0,1]::_)) _ _ _;obtain⟨o,ho,dU,hd,hg⟩:∃o,R17[0]?=some o/\o.op=.binOp .add 3 (.tmp 26) (.const (.int .i64 1)) 3/\o.dst=some 40/\o.guard=none:=⟨_,rfl,rfl,rfl,rfl⟩
 have dQ:aa o (ax R17 (ah T []).tmps)=true:=by unfold aa;rw[hg]
 refine Sil.value (.int .i64 ((i+1:Nat):Int)) ho dQ (by decide) (λw1=>?_) ?_
 ·have AB:(ah T []).eval (.tmp 26)=.int .i64 i:=nH;have bc:(ah T []).eval (.const (.int .i64 1))=.int .i64 1:=rfl;have mh:IntKind.i64.wrap ((i:Int)+1)=((i+1:Nat):Int):=by rw[IntKind.wrap_i64];omega
  generalize (ah T []).eval=e at*;unfold ai;constructor
  ·simp[go_sem,dU,AB,bc,mh]
  ·simp[go_sem,dU,AB,bc]
 rw[hd];change Sil _ (bS.at ⟨T.setIfInBounds 40 (.int .i64 ((i+1:Nat):Int)),[]⟩ (.inRegion R17 [1]::_)) _ _ _;obtain⟨o1,vH,iJ,hd1,jB⟩:∃o,R17[1]?=some o/\o.op=.move (.tmp 40)/\o.dst=some 26/\o.guard=none:=⟨_,rfl,rfl,rfl,rfl⟩
 have BI:aa o1 (ax R17 (ah (T.setIfInBounds 40 (.int .i64 ((i+1:Nat):Int))) []).tmps)=true:=by unfold aa;rw[jB]
 refine Sil.value (.int .i64 ((i+1:Nat):Int)) vH BI (by decide) (λw1=>?_) ?_
 ·have UM:(ah (T.setIfInBounds 40 (.int .i64 ((i+1:Nat):Int))) []).eval (.tmp 40)=.int .i64 ((i+1:Nat):Int):=ze (by rw[eT];omega);generalize (ah (T.setIfInBounds 40 (.int .i64 ((i+1:Nat):Int))) []).eval=e at*;unfold ai;constructor
  ·simp[go_sem,iJ,UM]
  ·simp[go_sem,iJ,UM]
 rw[hd1];change Sil _ (bS.at ⟨(T.setIfInBounds 40 (.int .i64 ((i+1:Nat):Int))).setIfInBounds 26 (.int .i64 ((i+1:Nat):Int)),[]⟩ (.inRegion R17 []::_)) _ _ _;refine Sil.ctl (λw1=>am) ?_;exact Sil.ctl (λw1=>stepG_inLoop) (Sil.refl _ _)
end
def BGo (cs:List ak) (fr:ak) (w:ae) (SB:Blocks) (Z:ak->ae->Prop):Prop:=
 ∀(d:Nat) (gs:Array al) (sl:Option (Nat×Nat)) (t:br) (q:Nat->Nat),gs[0]?=some (G fr cs)->bE prog t gs q->vz SB (w.at d) gs.size t->
  ∃(eH:Array al) (dY:ak) (w':ae) (sl':Option (Nat×Nat)) (t':br) (q':Nat->Nat),Runs prog gs (w.at d) sl t eH w' sl' t'/\eH.size=gs.size/\Z dY w'/\eH[0]?=some (G dY cs)/\bE prog t' eH q'/\vz SB w' eH.size t'
def TH (T:Array ag) (l:List (Nat×ag)):Prop:=T.size=42/\∀p∈l,T.getD p.1 ac=p.2
theorem TH.sub {T:Array ag} (h:TH T l) (hs:∀p∈l',p∈l):TH T l':=⟨h.1,λp hp=>h.2 p (hs p hp)⟩
theorem TH.set {T:Array ag} (h:TH T l) {d:Nat} (v:ag) (hd:d<42) (hs:∀p∈l',p∈l/\p.1≠d):TH (T.setIfInBounds d v) ((d,v)::l'):=by
 refine⟨by simp[h.1],λp hp=>?_⟩;rcases bd.1 hp with rfl|hp
 ·exact ze (by rw[h.1];exact hd)
 ·exact(ql (aQ (hs p hp).2)).trans (h.2 p (hs p hp).1)
section
variable {cs:List ak} {fr jk:ak} {w:ae} {SB:Blocks} {Z:ak->ae->Prop} {k:List Item} {T:Array ag}
theorem BGo.done (h:∀d,Z fr (w.at d)):BGo cs fr w SB Z:=λd gs sl t q h0 hL hP=>⟨gs,fr,w.at d,sl,t,q,⟨0,rfl⟩,rfl,h d,h0,hL,hP⟩
theorem BGo.sil (hs:Sil prog fr cs jk cs) (n:BGo cs jk w SB Z):BGo cs fr w SB Z:=λd gs sl t q h0 hL hP=>by
 obtain⟨jV,d1,iN,t1,q1,h1,h2,h3,h4,h5⟩:=hs.runs (SB:=SB) (sl:=sl) h0 hL hP;obtain⟨qX,gV,w2,p9,t2,q2,k1,k2,k3,k4,k5,k6⟩:=n d1 jV iN t1 q1 h3 h4 h5;exact⟨qX,gV,w2,p9,t2,q2,h1.trans k1,k2.trans h2,k3,k4,k5,k6⟩
theorem BGo.one (dZ:(G fr cs).status=.running) (hs:∀d,∃jk w1 es,aT prog true (G fr cs) (w.at d)=.go (G jk cs) w1 es/\w.heap.size<=w1.heap.size/\(∀e∈es,EvZ SB w1.heap.size e)/\BGo cs jk w1 SB Z):BGo cs fr w SB Z:=λd gs sl t q h0 hL hP=>by
 obtain⟨N,jV,a1,d1,w1,es,iN,t1,q1,hr,hgo,hz,nI,tC,tu,_⟩:=BS (P:=prog) (SB:=SB) (sl:=sl) h0 dZ hL hP λd=>let⟨jk,w1,es,h1,h2,h3,_⟩:=hs d;⟨_,_,_,h1,h2,h3⟩;obtain⟨jk,fQ,gP,h1,h2,h3,n⟩:=hs d1;rw[show(w.at d).at d1=w.at d1 from rfl]at hgo;rw[h1]at hgo;injection hgo with e1 e2 e3;subst e1;subst e2;subst e3;obtain⟨qX,gV,w2,p9,t2,q2,k1,k2,k3,k4,k5,k6⟩:=n fQ.drawn jV iN t1 q1 nI tC tu;exact⟨qX,gV,w2,p9,t2,q2,Runs.trans ⟨N,hr⟩ k1,k2.trans hz,k3,k4,k5,k6⟩
theorem BGo.val {rest:List Nat} (hT:TH T l) {d:Nat} (v:ag) (ho:ops[i]?=some o) (rA:o.dst=some d) (hg:o.guard=none) (hd:d<42) (hs:∀p∈l',p∈l/\p.1≠d)
  (hr:∀e:bZ->ag,(∀p∈l,e (.tmp p.1)=p.2)->(∀c,e (.const c)=c)->∀w,(ai e o).run prog w=.ok (.value v) w/\(ai e o).events prog w #[]=#[])
  (n:∀T',TH T' ((d,v)::l')->BGo cs (bS.at ⟨T',[]⟩ (.inRegion ops rest::k)) w SB Z):BGo cs (bS.at ⟨T,[]⟩ (.inRegion ops (i::rest)::k)) w SB Z:=by
 have dQ:aa o (ax ops (ah T []).tmps)=true:=by unfold aa;rw[hg]
 have ev:=hr (ah T []).eval (λp hp=>hT.2 p hp) (λ_=>rfl);refine BGo.sil (Sil.value v ho dQ (by decide) ev (.refl _ _)) ?_;rw[rA];exact n _ (hT.set v hd hs)
end
theorem PL {e:Event} (h:EvF F O e) (ha:∀b,F b->¬SB b) (hB:∀b,F b->b<B):EvZ SB B e:=⟨Il h ha hB,λ_ hy=>(KT h hy).1⟩
def ng (F:Blocks) (w:ae) (v:ag) (n:Nat) (xs:List ag):Prop:=
 xs.length=n*2/\((v=.slice none 0 0/\n=0)\/∃g cap cur,v=.slice (some ⟨g,0,none⟩) n cap/\F g/\w.heap[g]?=some (.cells cur 44 (0,0))/\n<=cap/\cap<=aJ/\cur.toList.take (n*2)=xs/\∀x∈cur.toList,∃s,x=.string s)
theorem ng.ext {v:ag} (h:ng F w v n xs) (k:∀b,F b->w1.heap[b]?=w.heap[b]?):ng F w1 v n xs:=by
 refine⟨h.1,h.2.imp id ?_⟩;rintro⟨g,cap,cur,h1,h2,h3,h4⟩;exact⟨g,cap,cur,h1,h2,(k g h2).trans h3,h4⟩
structure TlS (ρ0:Rel) (w0:ae) (SB:Blocks) (n:Nat) (xs:List ag) (ov:ag) (ρ:Rel) (w:ae):Prop where
 le:ρ0.le ρ
 wr:WR XG ρ w w
 vr:VR XG.F ρ ov ov
 nb:NB w
 own:w.ownsRow w0.heap.size 44 2 ov n xs
 keep:∀b,b<w0.heap.size->w.heap[b]?=w0.heap[b]?
 size:w0.heap.size<=w.heap.size
 apart:∀b,rng ρ b->¬SB b
 os:w.os=w0.os
 output:w.output=w0.output
theorem TlS.at {ρ0:Rel} {w0:ae} {ov:ag} (h:TlS ρ0 w0 SB n xs ov ρ w) (d:Nat):TlS ρ0 w0 SB n xs ov ρ (w.at d):=
 ⟨h.le,⟨h.wr.fn,h.wr.inj,h.wr.heap,λ_ _=>rfl,h.wr.sh⟩,h.vr,h.nb,h.own,h.keep,h.size,h.apart,h.os,h.output⟩
theorem q1j:∃i,prog.info? 44=some i/\i.zero=some (.agg #[.string ⟨#[]⟩,.string ⟨#[]⟩])/\i.size=2/\i.bytes=32:=by
 have h:(prog.info? 44).map (λi=>(i.zero,i.size,i.bytes))=some (some (.agg #[.string ⟨#[]⟩,.string ⟨#[]⟩]),2,32):=by kernel_rfl
 obtain⟨i,h1,h2⟩:=aG.1 h;injection h2 with h2 h3;injection h3 with h3 h4;exact⟨i,h1,h2,h3,h4⟩
def Bo (v x:ag):bZ->ag
 |.tmp 29=>v
 |.tmp 38=>x
 |.const c=>c
 |_=>ac
theorem Y1 {P:aK} {t e ty:co} {i:TypeInfo} (ht:P.underlying t=some (.slice e)) (hi:P.info? e=some i) {base:Nat} {v:ag} {size:Nat} (h:w.ownsRow base e size v n xs):
  (aD #[t,t] ty #[v,.slice none 0 0]).run P w=.ok v w:=by
 rcases h.2 with⟨rfl,rfl⟩|⟨g,cap,cur,rfl,h1,h2,h3,h4,h5,h6⟩
 ·simp[aD,aX ht,sizeOf,typeInfo,hi,bg,aH,loadCells,loadCellsFrom]
 ·simp[aD,aX ht,sizeOf,typeInfo,hi,bg,aH,loadCells,loadCellsFrom,storeCells,h3]
section
variable {cs:List ak} {SB:Blocks} {Z:ak->ae->Prop} {k:List Item} {T:Array ag} {ρ0 ρ:Rel} {w0 w:ae} {n:Nat} {xs:List ag} {ov:ag}
theorem Z5 {lv:ag} {m kk:Nat} {r:List ag} (h:TlS ρ0 w0 SB n xs ov ρ w) {Gb:Blocks} (hG:∀b,Gb b->b<w0.heap.size/\ρ0 b b) (qR:lv=.slice sa m c) (hr:ng Gb w0 lv m r) (mM:kk<=m) (Ar:∀b,SB b->b<w0.heap.size) (hn:n+kk<=1073741824)
  (hT:TH T l) (tJ:(29,ov)∈l) (tH:(38,.slice sa kk c)∈l) (uq:∀p∈l',p∈l/\p.1≠39/\p.1≠13)
  (nx:∀T' nQ ρ' w',TlS ρ0 w0 SB (n+kk) (xs++r.take (kk*2)) nQ ρ' w'->TH T' ((13,nQ)::l')->BGo cs (bS.at ⟨T',[]⟩ (.inRegion R16 []::k)) w' SB Z):
  BGo cs (bS.at ⟨T,[]⟩ (.inRegion R16 [10,11]::k)) w SB Z:=by
 obtain⟨o,ho,dU,hd,hg⟩:∃o,R16[10]?=some o/\o.op=.call {callee:=.builtin .append,args:=#[.tmp 29,.tmp 38],argTypes:=#[40,40]}/\o.dst=some 39/\o.guard=none:=⟨_,rfl,rfl,rfl,rfl⟩
 have fu:jL XG.P XG.P' fb true o=true:=by
  have:R16[10]?.any (jL prog prog fb true)=true:=by kernel_rfl
  rw[ho]at this;exact this
 obtain⟨i,hi,hz,hs,hb⟩:=q1j;have hu:prog.underlying 40=some (.slice 44):=underlying40;have dQ:aa o (ax R16 (ah T []).tmps)=true:=by unfold aa;rw[hg]
 have e29:(ah T []).eval (.tmp 29)=ov:=hT.2 _ tJ;have e38:(ah T []).eval (.tmp 38)=.slice sa kk c:=hT.2 _ tH;have jW:ai (ah T []).eval o=ai (Bo ov (.slice sa kk c)) o:=by
  unfold ai;simp only[dU,bC,aS,ca,e29,e38,Bo,resolve]
 refine BGo.one rfl λd=>?_;have mQ:=h.at d
 -- what it OX
 have dZ:∃v' w',(aD #[40,40] o.type #[ov,.slice sa kk c]).run prog (w.at d)=.ok v' w'/\w'.ownsRow w0.heap.size 44 2 v' (n+kk) (xs++r.take (kk*2))/\(w.at d).grownBy w' ov.ownBlock:=by
  rcases hr.2 with⟨e,rfl⟩|⟨g,cap,cur,e,h1,h2,h3,h4,h5,h6⟩
  ·obtain rfl:kk=0:=by omega
   rw[qR]at e;injection e with e1 e2 e3;subst e1;subst e3;refine⟨ov,w.at d,Y1 hu hi mQ.own,?_,⟨rfl,rfl,rfl,jm _,λ_ _ _=>rfl⟩⟩;simpa using mQ.own
  ·rw[qR]at e;injection e with e1 e2 e3;subst e1;subst e3;obtain⟨v',w',k1,k2,k3,_⟩:=run_append_own (P:=prog) (w.at d) w0.heap.size 40 o.type 44 i (.agg #[.string ⟨#[]⟩,.string ⟨#[]⟩]) 2 32 hu hi hz hs hb rfl (by decide) ov n xs mQ.own ⟨g,0,none⟩ kk c (r.take (kk*2))
    (by rw[bD,hr.1];omega)
    (λj u hj=>by
     have mP:j<kk*2:=by
      have:=(List.getElem?_eq_some_iff.1 hj).1;rw[bD]at this;omega
     rw[bq mP]at hj;rw[<-h5,bq (by omega)]at hj;have hgh:w.heap[g]?=some (.cells cur 44 (0,0)):=(h.keep g (hG g h1).1).trans h2;have ea:(⟨g,0,none⟩:Addr).add j=⟨g,j,none⟩:=by rw[Addr.add_lit,ce]
     rw[ea];show w.cell? ⟨g,j,none⟩=some u;simp only[aE,hgh]
     simpa using hj)
    (λu hu=>by
     have hm:u∈cur.toList:=by
      have:=aM hu;rw[<-h5]at this;exact aM this
     obtain⟨s,rfl⟩:=h6 u hm
     rfl)
    (by unfold aJ;omega) (by omega) mQ.size
   exact⟨v',w',k1,k2,k3⟩
 obtain⟨v',w',k1,k2,k3⟩:=dZ;have SE:(ai (Bo ov (.slice sa kk c)) o).run XG.P (w.at d)=.ok (.value v') w':=by
  unfold ai;show Sem.run prog _ _=_;simp only[dU,resolve,invoke,builtin,Sem.run_bind,Sem.run_pure,Result.andThen_ok,bC,aS,ca,Bo,k1]
 have hvx:VR XG.F ρ (.slice sa kk c) (.slice sa kk c):=by
  rcases hr.2 with⟨e,_⟩|⟨g,cap,cur,e,h1,_⟩
  ·rw[qR]at e;injection e with e1 e2 e3;subst e1;exact .ji _ _
  ·rw[qR]at e;injection e with e1 e2 e3;subst e1;exact .slice (h.le _ _ (hG g h1).2)
 have kF:EvR XG.F fb ρ (Bo ov (.slice sa kk c)) (Bo ov (.slice sa kk c)):=by
  refine⟨λx hx=>?_,λ_=>rfl⟩;unfold Bo;split
  ·exact h.vr
  ·exact hvx
  ·exact I7 (λ_ h=>h) _ hx
  ·exact Dt
 obtain⟨ρ1,m1,m2,m3,m4,m5⟩:=q5u rfl Mt fu kF mQ.wr SE;have Cn:∀b,rng ρ1 b->¬SB b:=λb hb hs=>by
  rcases m4.new b hb with h1|h1
  ·exact h.apart b h1 hs
  ·have:=Ar b hs;have h2:w.heap.size<=b:=h1;have:=h.size;omega
 have hst:=aU (P:=prog) (main:=true) (b:=bS) (k:=k) (cs:=cs) (rest:=[11]) (a:=ah T []) (w:=w.at d) ho dQ (by decide) (by rw[jW];exact SE);have uE:TlS ρ0 w0 SB (n+kk) (xs++r.take (kk*2)) v' ρ1 w':=by
  refine⟨Rel.le_trans h.le m1,m2,m3,m5 h.nb,k2,λb hb=>?_,xlt h.size k3.size,Cn,k3.os.trans h.os,k3.output.trans h.output⟩;refine(k3.block b (xll hb h.size) λe=>?_).trans (h.keep b hb);have:=(h.own.lt b e.symm).1;omega
 refine⟨_,w',_,hst,k3.size,λe he=>?_,?_⟩
 ·have:=bj he;rw[jW]at this;exact PL (m4.ev e this) Cn m4.low
 ·rw[hd];have hTs:TH (T.setIfInBounds 39 v') ((39,v')::l'):=hT.set v' (by decide) λp hp=>⟨(uq p hp).1,(uq p hp).2.1⟩
  change BGo cs (bS.at ⟨T.setIfInBounds 39 v',[]⟩ (.inRegion R16 [11]::k)) w' SB Z;obtain⟨o1,vH,iJ,hd1,jB⟩:∃o,R16[11]?=some o/\o.op=.assign (.tmp 39)/\o.dst=some 13/\o.guard=none:=⟨_,rfl,rfl,rfl,rfl⟩
  refine BGo.val hTs v' vH hd1 jB (by decide) (l':=l') (λp hp=>⟨.tail _ hp,(uq p hp).2.2⟩) (λe he hc w=>?_) λT1 J4=>nx T1 v' ρ1 w' uE J4;have UN:=he (39,v') (.head _);unfold ai;constructor
  ·simp[go_sem,iJ,UN]
  ·simp[go_sem,iJ,UN]
end
section
variable {cs:List ak} {SB:Blocks} {Z:ak->ae->Prop} {k:List Item} {T:Array ag} {w:ae} {ov lv:ag} {fs:Array ag} {most:Int}
theorem jbp (hi:i<4) (hv:fs[i]?=some lv) (hT:TH T [(13,ov),(25,.agg fs),(26,.int .i64 i),(3,.int .i64 most)])
  (n:∀T',TH T' [(15,lv),(13,ov),(25,.agg fs),(26,.int .i64 i),(3,.int .i64 most)]->BGo cs (bS.at ⟨T',[]⟩ (.code (.region 16 R16 false)::k)) w SB Z):
  BGo cs (bS.at ⟨T,[]⟩ (.code tIn::k)) w SB Z:=by
 rw[jbo];refine BGo.sil (Sil.ctl (λw1=>aB) (Sil.ctl (λw1=>ay) (.refl _ _))) ?_;change BGo cs (bS.at ⟨T,[]⟩ (.inRegion R15 [0,1]::_)) _ _ _;obtain⟨o150,jd2,PD,Hg,jdp⟩:∃o,R15[0]?=some o/\o.op=.index 75 (.tmp 25) (.tmp 26)/\o.dst=some 28/\o.guard=none:=⟨_,rfl,rfl,rfl,rfl⟩
 refine BGo.val hT (lv) jd2 Hg jdp (by decide) (l':=[(13,ov),(25,.agg fs),(26,.int .i64 i),(3,.int .i64 most)]) (by simp) (λe he hc w=>?_) λT hT=>?_
 ·have AB:=he (26,.int .i64 i) (by simp);have U1:=he (25,.agg fs) (by simp);unfold ai;constructor
  ·simp[go_sem,PD,AB,U1,hv,Instr.index,part];try(intro h4;omega)
  ·simp[go_sem,PD,AB,U1,hv,Instr.index,part];try(intro h4;omega)
 obtain⟨o151,jd3,Pz,Hf,jdq⟩:∃o,R15[1]?=some o/\o.op=.assign (.tmp 28)/\o.dst=some 15/\o.guard=none:=⟨_,rfl,rfl,rfl,rfl⟩
 refine BGo.val hT (lv) jd3 Hf jdq (by decide) (l':=[(13,ov),(25,.agg fs),(26,.int .i64 i),(3,.int .i64 most)]) (by simp) (λe he hc w=>?_) λT hT=>?_
 ·have U0:=he (28,lv) (by simp);unfold ai;constructor
  ·simp[go_sem,Pz,U0]
  ·simp[go_sem,Pz,U0]
 refine BGo.sil (Sil.ctl (λw1=>am) (.refl _ _)) ?_;exact n T hT
theorem tCut {m nn kk:Nat} {oa:Option Addr} {oc:Nat} (qR:lv=.slice sa m c) (F8:ov=.slice oa nn oc) (h0:(nn:Int)<=most) (h1:most<=9223372036854775807) (mM:(kk:Int)=if most-nn<m then most-nn else m) (Ue:m<=c)
  (hT:TH T [(15,lv),(13,ov),(25,.agg fs),(26,.int .i64 i),(3,.int .i64 most)])
  (n:∀T',TH T' [(38,.slice sa kk c),(29,ov),(25,.agg fs),(26,.int .i64 i),(3,.int .i64 most)]->BGo cs (bS.at ⟨T',[]⟩ (.inRegion R16 [10,11]::k)) w SB Z):
  BGo cs (bS.at ⟨T,[]⟩ (.code (.region 16 R16 false)::k)) w SB Z:=by
 subst qR;subst F8;have hkm:kk<=m:=by split at mM<;>omega
 have xA:kk<=c:=by omega
 have mh:IntKind.i64.wrap (most-nn)=most-nn:=by rw[IntKind.wrap_i64];omega
 refine BGo.sil (Sil.ctl (λw1=>ay) (.refl _ _)) ?_;change BGo cs (bS.at ⟨T,[]⟩ (.inRegion R16 [0,1,2,3,4,5,6,7,8,9,10,11]::_)) _ _ _;obtain⟨o160,jd4,Py,He,jdr⟩:∃o,R16[0]?=some o/\o.op=.move (.tmp 13)/\o.dst=some 29/\o.guard=none:=⟨_,rfl,rfl,rfl,rfl⟩
 refine BGo.val hT (.slice oa nn oc) jd4 He jdr (by decide) (l':=[(15,.slice sa m c),(13,.slice oa nn oc),(25,.agg fs),(26,.int .i64 i),(3,.int .i64 most)]) (by simp) (λe he hc w=>?_) λT hT=>?_
 ·have AL:=he (13,.slice oa nn oc) (by simp);unfold ai;constructor
  ·simp[go_sem,Py,AL]
  ·simp[go_sem,Py,AL]
 obtain⟨o161,jd5,Px,jdg,jds⟩:∃o,R16[1]?=some o/\o.op=.move (.tmp 15)/\o.dst=some 30/\o.guard=none:=⟨_,rfl,rfl,rfl,rfl⟩
 refine BGo.val hT (.slice sa m c) jd5 jdg jds (by decide) (l':=[(29,.slice oa nn oc),(15,.slice sa m c),(13,.slice oa nn oc),(25,.agg fs),(26,.int .i64 i),(3,.int .i64 most)]) (by simp) (λe he hc w=>?_) λT hT=>?_
 ·have GK:=he (15,.slice sa m c) (by simp);unfold ai;constructor
  ·simp[go_sem,Px,GK]
  ·simp[go_sem,Px,GK]
 obtain⟨o162,jd6,Pw,jdh,jdt⟩:∃o,R16[2]?=some o/\o.op=.move (.tmp 15)/\o.dst=some 31/\o.guard=none:=⟨_,rfl,rfl,rfl,rfl⟩
 refine BGo.val hT (.slice sa m c) jd6 jdh jdt (by decide) (l':=[(30,.slice sa m c),(29,.slice oa nn oc),(15,.slice sa m c),(13,.slice oa nn oc),(25,.agg fs),(26,.int .i64 i),(3,.int .i64 most)]) (by simp) (λe he hc w=>?_) λT hT=>?_
 ·have GK:=he (15,.slice sa m c) (by simp);unfold ai;constructor
  ·simp[go_sem,Pw,GK]
  ·simp[go_sem,Pw,GK]
 obtain⟨o163,jd7,Pv,jdi,jdu⟩:∃o,R16[3]?=some o/\o.op=.call {callee:=.builtin .len,args:=#[.tmp 31],argTypes:=#[40]}/\o.dst=some 32/\o.guard=none:=⟨_,rfl,rfl,rfl,rfl⟩
 refine BGo.val hT (.int .i64 m) jd7 jdi jdu (by decide) (l':=[(31,.slice sa m c),(30,.slice sa m c),(29,.slice oa nn oc),(15,.slice sa m c),(13,.slice oa nn oc),(25,.agg fs),(26,.int .i64 i),(3,.int .i64 most)]) (by simp) (λe he hc w=>?_) λT hT=>?_
 ·have UY:=he (31,.slice sa m c) (by simp);unfold ai;constructor
  ·simp[go_sem,Pv,UY,bG]
  ·simp[go_sem,Pv,UY,bG]
 obtain⟨o164,jd8,Pt,jdj,jdv⟩:∃o,R16[4]?=some o/\o.op=.move (.tmp 3)/\o.dst=some 33/\o.guard=none:=⟨_,rfl,rfl,rfl,rfl⟩
 refine BGo.val hT (.int .i64 most) jd8 jdj jdv (by decide) (l':=[(32,.int .i64 m),(31,.slice sa m c),(30,.slice sa m c),(29,.slice oa nn oc),(15,.slice sa m c),(13,.slice oa nn oc),(25,.agg fs),(26,.int .i64 i),(3,.int .i64 most)]) (by simp) (λe he hc w=>?_) λT hT=>?_
 ·have b3:=he (3,.int .i64 most) (by simp);unfold ai;constructor
  ·simp[go_sem,Pt,b3]
  ·simp[go_sem,Pt,b3]
 obtain⟨o165,jd9,Ps,jdk,jdw⟩:∃o,R16[5]?=some o/\o.op=.move (.tmp 13)/\o.dst=some 34/\o.guard=none:=⟨_,rfl,rfl,rfl,rfl⟩
 refine BGo.val hT (.slice oa nn oc) jd9 jdk jdw (by decide) (l':=[(33,.int .i64 most),(32,.int .i64 m),(31,.slice sa m c),(30,.slice sa m c),(29,.slice oa nn oc),(15,.slice sa m c),(13,.slice oa nn oc),(25,.agg fs),(26,.int .i64 i),(3,.int .i64 most)]) (by simp) (λe he hc w=>?_) λT hT=>?_
 ·have AL:=he (13,.slice oa nn oc) (by simp);unfold ai;constructor
  ·simp[go_sem,Ps,AL]
  ·simp[go_sem,Ps,AL]
 obtain⟨o166,jea,Pq,jdl,jdx⟩:∃o,R16[6]?=some o/\o.op=.call {callee:=.builtin .len,args:=#[.tmp 34],argTypes:=#[40]}/\o.dst=some 35/\o.guard=none:=⟨_,rfl,rfl,rfl,rfl⟩
 refine BGo.val hT (.int .i64 nn) jea jdl jdx (by decide) (l':=[(34,.slice oa nn oc),(33,.int .i64 most),(32,.int .i64 m),(31,.slice sa m c),(30,.slice sa m c),(29,.slice oa nn oc),(15,.slice sa m c),(13,.slice oa nn oc),(25,.agg fs),(26,.int .i64 i),(3,.int .i64 most)]) (by simp) (λe he hc w=>?_) λT hT=>?_
 ·have UU:=he (34,.slice oa nn oc) (by simp);unfold ai;constructor
  ·simp[go_sem,Pq,UU,bG]
  ·simp[go_sem,Pq,UU,bG]
 obtain⟨o167,jeb,Pp,G9,jdy⟩:∃o,R16[7]?=some o/\o.op=.binOp .sub 3 (.tmp 33) (.tmp 35) 3/\o.dst=some 36/\o.guard=none:=⟨_,rfl,rfl,rfl,rfl⟩
 refine BGo.val hT (.int .i64 (most-nn)) jeb G9 jdy (by decide) (l':=[(35,.int .i64 nn),(34,.slice oa nn oc),(33,.int .i64 most),(32,.int .i64 m),(31,.slice sa m c),(30,.slice sa m c),(29,.slice oa nn oc),(15,.slice sa m c),(13,.slice oa nn oc),(25,.agg fs),(26,.int .i64 i),(3,.int .i64 most)]) (by simp) (λe he hc w=>?_) λT hT=>?_
 ·have UW:=he (33,.int .i64 most) (by simp);have UR:=he (35,.int .i64 nn) (by simp);unfold ai;constructor
  ·simp[go_sem,Pp,UW,UR,mh]
  ·simp[go_sem,Pp,UW,UR,mh]
 obtain⟨o168,jec,Po,G8,jdz⟩:∃o,R16[8]?=some o/\o.op=.call {callee:=.builtin .min,args:=#[.tmp 32,.tmp 36],argTypes:=#[3,3]}/\o.dst=some 37/\o.guard=none:=⟨_,rfl,rfl,rfl,rfl⟩
 refine BGo.val hT (.int .i64 kk) jec G8 jdz (by decide) (l':=[(36,.int .i64 (most-nn)),(35,.int .i64 nn),(34,.slice oa nn oc),(33,.int .i64 most),(32,.int .i64 m),(31,.slice sa m c),(30,.slice sa m c),(29,.slice oa nn oc),(15,.slice sa m c),(13,.slice oa nn oc),(25,.agg fs),(26,.int .i64 i),(3,.int .i64 most)]) (by simp) (λe he hc w=>?_) λT hT=>?_
 ·have UX:=he (32,.int .i64 m) (by simp);have UQ:=he (36,.int .i64 (most-nn)) (by simp);unfold ai;constructor
  ·simp[go_sem,Po,UX,UQ,da,dc,mM]
  ·simp[go_sem,Po,UX,UQ,da,dc,mM]
 obtain⟨o169,jed,Pn,jdm,jd0⟩:∃o,R16[9]?=some o/\o.op=.slice 40 (.tmp 30) none (some (.tmp 37)) none/\o.dst=some 38/\o.guard=none:=⟨_,rfl,rfl,rfl,rfl⟩
 refine BGo.val hT (.slice sa kk c) jed jdm jd0 (by decide) (l':=[(37,.int .i64 kk),(36,.int .i64 (most-nn)),(35,.int .i64 nn),(34,.slice oa nn oc),(33,.int .i64 most),(32,.int .i64 m),(31,.slice sa m c),(30,.slice sa m c),(29,.slice oa nn oc),(15,.slice sa m c),(13,.slice oa nn oc),(25,.agg fs),(26,.int .i64 i),(3,.int .i64 most)]) (by simp) (λe he hc w=>?_) λT hT=>?_
 ·have UZ:=he (30,.slice sa m c) (by simp);have UO:=he (37,.int .i64 kk) (by simp);unfold ai;constructor
  ·simp[go_sem,Pn,UZ,UO,Instr.sliceAt,Instr.slice,Instr.sliceBounds,Instr.sliceBound,xA]
  ·simp[go_sem,Pn,UZ,UO,Instr.sliceAt,Instr.slice,Instr.sliceBounds,Instr.sliceBound,xA]
 refine n T (hT.sub ?_);simp
end
def jH (most:Nat) (m:Nat->Nat) (rows:Nat->List ag):Nat->Nat×List ag
 |0=>(0,[])
 |i+1=>((jH most m rows i).1+min (m i) (most-(jH most m rows i).1),(jH most m rows i).2++(rows i).take (min (m i) (most-(jH most m rows i).1)*2))
theorem Z4 (most:Nat) (m:Nat->Nat) (rows:Nat->List ag) (i:Nat):(jH most m rows i).1<=most:=by
 induction i with
 |zero=>exact xzl _
 |succ i ih=>simp only[jH];omega
theorem Rn (most:Nat) (m:Nat->Nat) (rows:Nat->List ag) {B:Nat}:∀i,(∀j,j<i->m j<=B)->(jH most m rows i).1<=i*B
 |0,_=>xzl _
 |i+1,h=>by
  have:=Rn most m rows i λj hj=>h j (by omega);have:=h i (by omega);simp only[jH];rw[Nat.succ_mul];omega
section
variable {cs:List ak} {SB:Blocks} {Z:ak->ae->Prop} {k:List Item} {ρ0:Rel} {w0:ae} {fs:Array ag} {lv:Nat->ag} {m:Nat->Nat} {rows:Nat->List ag} {most:Nat} {Gb:Blocks}
theorem ji1 (hfs:∀i,i<4->fs[i]?=some (lv i)) (hG:∀b,Gb b->b<w0.heap.size/\ρ0 b b) (hr:∀i,i<4->ng Gb w0 (lv i) (m i) (rows i)) (Ar:∀b,SB b->b<w0.heap.size) (hm:∀i,i<4->m i<=268435456) (Dn:most<=9223372036854775807)
  (nx:∀T' nQ ρ' w',TlS ρ0 w0 SB (jH most m rows 4).1 (jH most m rows 4).2 nQ ρ' w'->TH T' [(13,nQ)]->BGo cs (bS.at ⟨T',[]⟩ (.code tE::k)) w' SB Z):
  ∀r i,i+r=4->∀T ov ρ w,TlS ρ0 w0 SB (jH most m rows i).1 (jH most m rows i).2 ov ρ w->TH T [(13,ov),(25,.agg fs),(26,.int .i64 i),(3,.int .i64 most)]->
   BGo cs (bS.at ⟨T,[]⟩ (.code tL::.inLoop tL::.inBlock 2::.code tE::k)) w SB Z:=by
 intro r;induction r with
 |zero=>
  intro i hi T ov ρ w h hT;obtain rfl:i=4:=by omega
  refine BGo.sil (SK hT.1 (hT.2 (26,.int .i64 ((4:Nat):Int)) (by simp)) (b:=false) (xdf (by decide))) ?_;refine BGo.sil (Sil.ctl (λw1=>stepG_exit rfl) (.refl _ _)) ?_;exact nx _ ov ρ w h ((hT.set (l':=[(13,ov)]) (.bool false) (by decide) (by simp)).sub (by simp))
 |succ r ih=>
  intro i hi T ov ρ w h hT;have xB:i<4:=by omega
  refine BGo.sil (SK hT.1 (hT.2 (26,.int .i64 i) (by simp)) (b:=true) (xdt (by omega))) ?_;refine BGo.sil (Sil.ctl (λw1=>cM) (Sil.ctl (λw1=>aB) (Sil.ctl (λw1=>bo) (.refl _ _)))) ?_;have J4:TH (T.setIfInBounds 27 (.bool true)) [(13,ov),(25,.agg fs),(26,.int .i64 i),(3,.int .i64 most)]:=(hT.set (l':=[(13,ov),(25,.agg fs),(26,.int .i64 i),(3,.int .i64 most)]) (.bool true) (by decide) (by simp)).sub (by simp);generalize T.setIfInBounds 27 (.bool true)=T1 at J4⊢;refine jbp xB (hfs i xB) J4 λT2 J3=>?_;have hle:=Z4 most m rows i;have hml:=hm i xB;have F8:∃oa oc,ov=.slice oa (jH most m rows i).1 oc:=by
   rcases h.own.2 with⟨rfl,e⟩|⟨g,cap,cur,rfl,_⟩
   ·exact⟨none,0,by rw[e]⟩
   ·exact⟨_,_,rfl⟩
  obtain⟨oa,oc,F8⟩:=F8;have qR:∃sa c,lv i=.slice sa (m i) c/\m i<=c:=by
   rcases(hr i xB).2 with⟨e,e2⟩|⟨g,cap,cur,e,_,_,h1,_⟩
   ·exact⟨none,0,by rw[e,e2],by omega⟩
   ·exact⟨_,_,e,h1⟩
  obtain⟨sa,c,qR,Ue⟩:=qR;have mM:((min (m i) (most-(jH most m rows i).1):Nat):Int)=if(most:Int)-((jH most m rows i).1:Nat)<(m i:Nat)then(most:Int)-((jH most m rows i).1:Nat)else(m i:Nat):=by
   split<;>omega
  refine tCut qR F8 (by omega) (by omega) mM Ue J3 λT3 Gw=>?_;have hb:=Rn most m rows (B:=268435456) i λj hj=>hm j (by omega);have fH:i*268435456<=3*268435456:=bO _ (by omega);refine Z5 (kk:=min (m i) (most-(jH most m rows i).1)) (l':=[(25,.agg fs),(26,.int .i64 i),(3,.int .i64 most)]) h hG qR (hr i xB) (Nat.min_le_left _ _) Ar (by omega) Gw (by simp) (by simp) (by simp) λT4 nQ ρ' w' h' Np=>?_;refine BGo.sil (ji2 xB Np.1 (Np.2 (26,.int .i64 i) (by simp))) ?_;refine ih (i+1) (by omega) _ nQ ρ' w' h' ?_;have e1:=Np.set (l':=[(13,nQ),(25,.agg fs),(3,.int .i64 most)]) (d:=40) (.int .i64 ((i+1:Nat):Int)) (by decide) (by simp);exact(e1.set (l':=[(13,nQ),(25,.agg fs),(3,.int .i64 most)]) (d:=26) (.int .i64 ((i+1:Nat):Int)) (by decide) (by simp)).sub (by simp)
end
theorem Same.trans {b c:ae} (h:Same a b) (k:Same b c):Same a c:=⟨k.heap.trans h.heap,k.os.trans h.os,k.output.trans h.output⟩
theorem Same.at (w:ae) (d:Nat):Same w (w.at d):=⟨rfl,rfl,rfl⟩
theorem Same.re (w:ae) (τ:Tape):Same w (re w τ):=⟨rfl,rfl,rfl⟩
def qc (N:Blocks) (kv:List ag) (cs:List ak) (fr:ak) (w:ae) (dX:List ak) (Z:ak->ae->Prop):Prop:=
 ∀(wc:ae),Same w wc->∀(gs:Array al) (sl:Option (Nat×Nat)) (t:br) (SB:Blocks) (ρ:Rel) (q:Nat->Nat),Co XG fb blG SB ρ gs fr cs wc t q->(∀b,N b->¬SB b)->(∀v∈kv,VR XG.F ρ v v)->
  ∃(eH:Array al) (dY:ak) (w':ae) (sl':Option (Nat×Nat)) (t':br) (NI:Blocks) (ρ':Rel) (q':Nat->Nat),Runs XG.P gs wc sl t eH w' sl' t'/\Z dY w'/\Co XG fb blG NI ρ' eH dY dX w' t' q'/\(∀b,N b->¬NI b)/\∀v∈kv,VR XG.F ρ' v v
section
variable {N:Blocks} {kv:List ag} {cs dX AA:List ak} {fr jk gV:ak} {w w1:ae} {Z Z':ak->ae->Prop} {b:ak} {a:Act} {k:List Item}
theorem qc.done (h:∀wc,Same w wc->Z fr wc):qc N kv cs fr w cs Z:=λwc hs gs sl t SB ρ q hc hN hK=>⟨gs,fr,wc,sl,t,SB,ρ,q,⟨0,rfl⟩,h wc hs,hc,hN,hK⟩
theorem qc.then (h:qc N kv cs fr w dX Z) (k:∀jk w1,Z jk w1->qc N kv dX jk w1 AA Z'):qc N kv cs fr w AA Z':=λwc hs gs sl t SB ρ q hc hN hK=>by
 obtain⟨jV,jk,w1,iN,t1,NH,ρ1,q1,h1,h2,h3,D8,hK1⟩:=h wc hs gs sl t SB ρ q hc hN hK;obtain⟨qX,gV,w2,p9,t2,yY,ρ2,q2,h4,h5,h6,h7⟩:=k jk w1 h2 w1 (Same.refl _) jV iN t1 NH ρ1 q1 h3 D8 hK1;exact⟨qX,gV,w2,p9,t2,yY,ρ2,q2,h1.trans h4,h5,h6,h7⟩
theorem qc.mono (h:qc N kv cs fr w dX Z) (k:∀jk w1,Z jk w1->Z' jk w1):qc N kv cs fr w dX Z':=λwc hs gs sl t SB ρ q hc hN hK=>
 let⟨jV,jk,w1,iN,t1,NH,ρ1,q1,h1,h2,h3⟩:=h wc hs gs sl t SB ρ q hc hN hK
 ⟨jV,jk,w1,iN,t1,NH,ρ1,q1,h1,k _ _ h2,h3⟩
abbrev FSt (ρ:Rel) (f:ak):Prop:=FR XG fb true ρ (wt f []) (wt f [])
abbrev FSb (ρ:Rel) (f:ak):Prop:=blG f.fn=false->FSt ρ f
theorem qc.sil (hs:Sil XG.P fr cs jk dX) (hf:∀ρ,FSb ρ fr->(∀c∈cs,FSb ρ c)->(∀v∈kv,VR XG.F ρ v v)->FSb ρ jk/\∀c∈dX,FSb ρ c) (n:qc N kv dX jk w AA Z):qc N kv cs fr w AA Z:=λwc s gs sl t SB ρ q hc hN hK=>by
 obtain⟨fD,uw⟩:=hf ρ hc.fr hc.cs hK;obtain⟨jV,d,iN,t1,q1,h1,h2,h3⟩:=hc.sil (sl:=sl) hs fD uw;obtain⟨qX,gV,w2,p9,t2,yY,ρ2,q2,h4,h5,h6⟩:=n (wc.at d) (s.trans (Same.at wc d)) jV iN t1 SB ρ q1 h3 hN hK;exact⟨qX,gV,w2,p9,t2,yY,ρ2,q2,h1.trans h4,h5,h6⟩
theorem qc.ctl {t1:List Item} (h:∀w,aT XG.P true (G fr cs) w=.go (G (wt fr t1) cs) w #[]) (n:qc N kv cs (wt fr t1) w dX Z):qc N kv cs fr w dX Z:=
 qc.sil (.step h (.refl _ _)) (λ_ h1 h2 _=>⟨h1,h2⟩) n
theorem qc.seq {x y:Code} (n:qc N kv cs (b.at a (.code x::.code y::k)) w dX Z):qc N kv cs (b.at a (.code (.seq x y)::k)) w dX Z:=qc.ctl (λ_=>aB) n
theorem qc.skip (n:qc N kv cs (b.at a k) w dX Z):qc N kv cs (b.at a (.code .skip::k)) w dX Z:=qc.ctl (λ_=>cM) n
theorem qc.cond {c:bZ} {x y:Code} {t:Bool} (h:a.eval c=.bool t) (n:qc N kv cs (b.at a (.code (if t then x else y)::k)) w dX Z):qc N kv cs (b.at a (.code (.cond c x y)::k)) w dX Z:=qc.ctl (λ_=>stepG_cond h) n
theorem qc.block {id:Nat} {c:Code} (n:qc N kv cs (b.at a (.code c::.inBlock id::k)) w dX Z):qc N kv cs (b.at a (.code (.block id c)::k)) w dX Z:=qc.ctl (λ_=>bo) n
theorem qc.inBlock {id:Nat} (n:qc N kv cs (b.at a k) w dX Z):qc N kv cs (b.at a (.inBlock id::k)) w dX Z:=qc.ctl (λ_=>bU) n
theorem qc.loop {c:Code} (n:qc N kv cs (b.at a (.code c::.inLoop c::k)) w dX Z):qc N kv cs (b.at a (.code (.loop c)::k)) w dX Z:=qc.ctl (λ_=>stepG_loop) n
theorem qc.inLoop {c:Code} (n:qc N kv cs (b.at a (.code c::.inLoop c::k)) w dX Z):qc N kv cs (b.at a (.inLoop c::k)) w dX Z:=qc.ctl (λ_=>stepG_inLoop) n
theorem qc.exit {id:Nat} {k':List Item} (h:exitTo id k=some k') (n:qc N kv cs (b.at a k') w dX Z):qc N kv cs (b.at a (.code (.exit id)::k)) w dX Z:=qc.ctl (λ_=>stepG_exit h) n
theorem qc.region {id:Nat} (n:qc N kv cs (b.at a (.inRegion ops (cJ ops.size)::k)) w dX Z):qc N kv cs (b.at a (.code (.region id ops false)::k)) w dX Z:=qc.ctl (λ_=>ay) n
theorem qc.regionEnd (n:qc N kv cs (b.at a k) w dX Z):qc N kv cs (b.at a (.inRegion ops []::k)) w dX Z:=qc.ctl (λ_=>am) n
theorem qc.code {c:Code} {Q:Exit->Act->ae->Prop} (fZ:blG b.fn=false) (hc:codeOk XG.P XG.P fb true c=true) (qO:Plain k Q) (qW:∀e a w wc,Same w wc->Q e a w->Q e a wc) (hp:∀wc,Same w wc->c.wp XG.P Q a wc)
  (n:∀e a' w' dY,Q e a' w'->zQ b k e a' dY->qc N kv cs dY w' dX Z):qc N kv cs (b.at a (.code c::k)) w dX Z:=λwc s gs sl t SB ρ q gy hN hK=>by
 obtain⟨jV,jk,w1,iN,t1,q1,ρ1,h1,_,hle,⟨e,a',h2,h3⟩,h4⟩:=gy.code (sl:=sl) rfl Mt fZ hc qO qW λτ _=>hp (re wc τ) (s.trans (Same.re wc τ));obtain⟨qX,gV,w2,p9,t2,yY,ρ2,q2,h5,h6,h7⟩:=n e a' w1 jk h2 h3 w1 (Same.refl _) jV iN t1 SB ρ1 q1 h4 hN λv hv=>(hK v hv).mono hle;exact⟨qX,gV,w2,p9,t2,yY,ρ2,q2,h1.trans h5,h6,h7⟩
theorem qc.op {ops:Array Oper} {i:Nat} {td:List Nat} {o:Oper} {Q:Act->ae->Prop} (fZ:blG b.fn=false) (id:Nat) (ho:ops[i]?=some o) (fu:jL XG.P XG.P fb true (Sim.bare o)=true) (dQ:aa o (ax ops a.tmps)=true) (qW:∀a w wc,Same w wc->Q a w->Q a wc)
  (hp:∀wc,Same w wc->(Code.region id #[Sim.bare o] false).wp XG.P (λe a' w'=>e=.normal/\Q a' w') a wc)
  (n:∀a' w',Q a' w'->qc N kv cs (b.at a' (.inRegion ops td::k)) w' dX Z):qc N kv cs (b.at a (.inRegion ops (i::td)::k)) w dX Z:=λwc s gs sl t SB ρ q gy hN hK=>by
 obtain⟨jV,jk,w1,iN,t1,q1,ρ1,h1,_,hle,⟨a',h2,rfl⟩,h4⟩:=gy.op (sl:=sl) rfl Mt fZ ho fu dQ qW (id:=id) λτ _=>hp (re wc τ) (s.trans (Same.re wc τ));obtain⟨qX,gV,w2,p9,t2,yY,ρ2,q2,h5,h6,h7⟩:=n a' w1 h2 w1 (Same.refl _) jV iN t1 SB ρ1 q1 h4 hN λv hv=>(hK v hv).mono hle;exact⟨qX,gV,w2,p9,t2,yY,ρ2,q2,h1.trans h5,h6,h7⟩
def Leaves (fr:ak) (v:ag):Prop:=fr.mode=.returning/\fr.defers=[]/\fr.kind=.normal/\∃fn,XG.P.funcs[fr.fn]?=some fn/\∀w,(results fn fr.tmps).runT XG.P w #[]=(.ok v w,#[])
def y9 (f:aC) (R:ag->ae->Prop) (fr:ak) (w:ae):Prop:=
 fr.fn=f/\∃v,Leaves fr v/\(∀ρ,jq XG.F ρ fr.tmps.toList fr.tmps.toList->VR XG.F ρ v v)/\R v w
def JC (N:Blocks) (kv:List ag) (f:aC) (args:Array ag) (w:ae) (R:ag->ae->Prop):Prop:= ∀cs,qc N kv cs (aq XG.P f args .normal) w cs (y9 f R)
def ul (N:Blocks) (kv:List ag) (f:aC) (args:Array ag) (w:ae) (R:ag->ae->Prop):Prop:= ∀c cs,qc N kv (c::cs) (aq XG.P f args .normal) w cs (λfr w'=>∃v,fr=c.finish v/\R v w')
theorem ul.mono {args:Array ag} {R':ag->ae->Prop} (h:ul N kv f args w R) (k:∀v w,R v w->R' v w):ul N kv f args w R':=
 λc cs=>(h c cs).mono λ_ _ ⟨v,h1,h2⟩=>⟨v,h1,k _ _ h2⟩
theorem VW (P:aK) (f:aC) (args:Array ag):(aq P f args .normal).fn=f:=rfl
theorem FSt.enter {ρ:Rel} {f:aC} {fn:Func} {args:Array ag} (hf:XG.P.funcs[f]?=some fn) (ha:jq XG.F ρ args.toList args.toList):FSt ρ (aq XG.P f args .normal):=by
 show FR XG fb true ρ (wt (aq XG.P f args .normal) []) (wt (aq XG.P f args .normal) []);unfold aq;simp only[hf];refine⟨rfl,⟨fn,hf,hf⟩,?_,.nil,.nil,rfl,.inl rfl,rfl,rfl,.inl ⟨rfl,rfl⟩⟩;refine ha.BO ?_;rw[Array.toList_replicate];exact jq.replicate Dt _
theorem FSt.finish {f:ak} {v:ag} (h:FSt ρ f) (hv:VR XG.F ρ v v):FSt ρ (f.finish v):=by
 have key:∀(tm:Array ag) (td:List Item),jq XG.F ρ tm.toList tm.toList->FSt ρ {f with tmps:=tm,todo:=td}:=λtm td ht=>⟨rfl,h.same,ht,.nil,h.defers,rfl,h.run,h.kind,h.kind',h.round⟩
 unfold dh;split
 ·refine key _ _ ?_;split
  ·exact h.tmps.Ev _ hv
  ·exact h.tmps
 ·exact key _ _ h.tmps
 ·exact key _ _ h.tmps
 ·exact key _ _ h.tmps
 ·exact key _ _ (.cons hv .nil)
 ·exact h
theorem Frame.Q0 (c:ak) (v:ag):(c.finish v).fn=c.fn:=by
 unfold dh;split<;>first|rfl|(split<;>rfl)
theorem RY {fr c:ak} {v:ag} {w:ae} (h:Leaves fr v):aT XG.P true (G fr (c::cs)) w=.go (G (c.finish v) cs) w #[]:=by
 obtain⟨hm,hd,hk,fn,hf,hr⟩:=h;rw[zo _ _ _ _ _ hm];obtain⟨D9,Hq,SI,Fv,ED,EU,Pb⟩:=fr;obtain rfl:Fv=[]:=hd;obtain rfl:ED=.returning:=hm;obtain rfl:EU=.normal:=hk;have hf:XG.P.funcs[D9]?=some fn:=hf;have hr:(results fn Hq).runT XG.P w #[]=(.ok v w,#[]):=hr w;unfold unwind;dsimp only;rw[hf];dsimp only;rw[hr];rfl
theorem JC.calls {args:Array ag} (fZ:blG f=false) (hS:∀v w wc,Same w wc->R v w->R v wc) (h:JC N kv f args w R):ul N kv f args w R:=λc cs=>by
 refine(h (c::cs)).then ?_;rintro jk w1 ⟨qV,v,hl,hv,hr⟩;exact qc.sil (.step (λw=>RY hl) (.refl _ _)) (λρ h1 h2 _=>⟨λhb=>FSt.finish (h2 c (.head _) (by rw[<-Frame.Q0 c v];exact hb)) (hv ρ (h1 (by rw[qV];exact fZ)).tmps),λc hc=>h2 c (.tail _ hc)⟩) (qc.done λwc s=>⟨v,rfl,hS _ _ _ s hr⟩)
theorem qc.call {td:List Nat} {fn:Func} {args:Array ag} (ho:ops[i]?=some o) (hw:aa o (ax ops a.tmps)=true) (hk:b.kind≠.early)
  (ev:∀w,(ai a.eval o).run XG.P w=.ok (.enter f args) w/\(ai a.eval o).events XG.P w #[]=#[]) (hf:XG.P.funcs[f]?=some fn)
  (gG:∀ρ,FSb ρ (b.at a (.inRegion ops (i::td)::k))->(∀v∈kv,VR XG.F ρ v v)->blG f=false->jq XG.F ρ args.toList args.toList)
  (lm:ul N kv f args w R) (n:∀v w',R v w'->qc N kv cs (b.at (a.put o.dst v) (.inRegion ops td::k)) w' dX Z):qc N kv cs (b.at a (.inRegion ops (i::td)::k)) w dX Z:=by
 have hs:∀w,aT XG.P true (G (b.at a (.inRegion ops (i::td)::k)) cs) w=.go (G (aq XG.P f args .normal) (b.at a (.inRegion ops (i::td)::k)::cs)) w #[]:=λw=>by
  rw[bM ho hw hk (ev w).1];unfold listed;rw[(ev w).2,bA]
 refine qc.sil (.step hs (.refl _ _)) (λρ h1 h2 hk=>⟨λhb=>FSt.enter hf (gG ρ h1 hk (by rw[<-VW XG.P f args];exact hb)),λc hc=>?_⟩) ((lm _ _).then ?_)
 ·rcases bd.1 hc with rfl|hc
  ·exact h1
  ·exact h2 c hc
 rintro jk w1 ⟨v,rfl,hr⟩;rw[Frame.finish_at,ho];exact n v w1 hr
end
end
end Ph
namespace Sim
open Go Go.Conc
def dg (ρ:Rel):Rel:=λa b=>a=b/\∃x,ρ x b
section
variable {F:aC->Prop} {ρ:Rel}
theorem xU {a:Nat} (h:ρ a b):dg ρ b b:=⟨rfl,a,h⟩
mutual
theorem VR.right:∀{v v':ag},VR F ρ v v'->VR F (dg ρ) v' v'
 |_,_,.bool b=>.bool b
 |_,_,.int k n=>.int k n
 |_,_,.string s=>.string s
 |_,_,.nk=>.nk
 |_,_,.ptr r=>.ptr (xU r)
 |_,_,.ji n c=>.ji n c
 |_,_,.slice r=>.slice (xU r)
 |_,_,.qF=>.qF
 |_,_,.map r=>.map (xU r)
 |_,_,.func f r=>.func f r.right
 |_,_,.yield r=>.yield (xU r)
 |_,_,.nilFunc=>.nilFunc
 |_,_,.agg r=>.agg r.right
 |_,_,.tuple r=>.tuple r.right
theorem jq.right:∀{l l':List ag},jq F ρ l l'->jq F (dg ρ) l' l'
 |_,_,.nil=>.nil
 |_,_,.cons a b=>.cons a.right b.right
end
theorem ER.right {e e':bk} (h:ER F ρ e e'):ER F (dg ρ) e' e':=⟨h.key.right,h.val.right,rfl⟩
theorem EsR.right:∀{l l':List bk},EsR F ρ l l'->EsR F (dg ρ) l' l'
 |_,_,.nil=>.nil
 |_,_,.cons a b=>.cons a.right b.right
theorem DsR.right:∀{l l':List cH},DsR ρ l l'->DsR (dg ρ) l' l'
 |_,_,.nil=>.nil
 |_,_,.cons a b=>.cons (xU a) b.right
theorem pI.right {x x':Option Nat} (h:pI ρ x x'):pI (dg ρ) x' x':=by
 rcases h with⟨_,h⟩|⟨l,l',_,h,r⟩
 ·exact .inl ⟨h,h⟩
 ·exact .inr ⟨l',l',h,h,xU r⟩
variable {X:Cx} {Fb:aC->Bool} {wr:Bool}
theorem OR.right {o o':Obj} (h:OR X ρ o o'):OR X (dg ρ) o' o':=by
 cases h with
 |cells a b=>exact .cells a.right (.inl rfl)
 |map a=>exact .map a.right
 |stringIter s p=>exact .stringIter s p
 |Af a b c=>exact .Af a b c
 |mapIter r=>exact .mapIter (xU r)
 |loop a b c d e g=>exact .loop a.right (xU b) c d e g
 |number l r=>exact .number l (xU r)
 |BV=>exact .BV
 |deferred=>exact .deferred
theorem WR.right (h:WR X ρ w w') (hs:∀a,¬X.Sh a):WR X (dg ρ) w' w':=
 ⟨λh1 h2=>h1.1.symm.trans h2.1,λh1 h2=>h1.1.trans h2.1.symm,λ{a b} ⟨e,x,hx⟩=>by
  subst e;obtain⟨o,o',_,k2,k3⟩:=h.heap hx
  exact⟨o',o',k2,k2,k3.right⟩,λ_ _=>rfl,λa ha=>(hs a ha).elim⟩
end
end Sim
namespace Ph
section
open Go Go.Conc Go.ConcN Sim
section
variable {X:Cx} {Fb:aC->Bool} {wr:Bool} {ρ:Rel}
theorem QI {f f':ak} (h:FR X Fb wr ρ (wt f []) (wt f' [])):FR X Fb wr (dg ρ) (wt f' []) (wt f' []):=
 ⟨rfl,let⟨g,h1,h2⟩:=h.same;⟨g,by rw[h.fn];exact h1,by rw[h.fn];exact h2⟩,h.tmps.right,.nil,h.defers.right,rfl,by have:=h.run;rw[<-h.mode]at this;exact this,h.kind',h.kind',h.round.right⟩
end
theorem ja7 (ρ:Rel):rng (dg ρ)=rng ρ:=by
 funext b;exact propext ⟨λ⟨_,_,h⟩=>h,λ⟨a,h⟩=>⟨b,rfl,a,h⟩⟩
theorem SY (ρ:Rel):own XG ρ=rng ρ:=by
 funext b;exact propext ⟨λ⟨a,h,_⟩=>⟨a,h⟩,λ⟨a,h⟩=>⟨a,h,λh=>h⟩⟩
theorem Co.diag (h:Co XG fb blG SB ρ gs fr cs w t q):Co XG fb blG SB (dg ρ) gs fr cs w t q:=
 ⟨h.g0,h.leavers,h.past,by rw[SY,ja7];have:=h.foot;rwa [SY]at this,λhb=>QI (h.fr hb),λc hc hb=>QI (h.cs c hc hb),h.wr.right λ_ h=>h,h.nb⟩
end
section
open Go.Conc Go.ConcN Go.RowKit Go.Conc.Lib Go.ConcR.Gen Go.ConcN.Gen Go Sim
open Go.ConcR (KK wgBlock WgAt stA smA rd wr mk Payload Aside2 DC0 ofEvent_cell)
structure qE (cl:Nat) (db mb:Nat->Nat) (es:Nat->Array bk) (ck:Nat->Nat) (w:ae):Prop where
 d:∀i,i<4->w.cell? ⟨cl,1+i*3+1,none⟩=some (.pointer (some ⟨db i,0,none⟩))
 b:∀i,i<4->w.heap[db i]?=some (.cells #[.map (some (mb i))] 109 (0,0))
 m:∀i,i<4->w.heap[mb i]?=some (.map (es i) (ck i))
section
variable {cl:Nat} {db mb:Nat->Nat} {es:Nat->Array bk} {ck:Nat->Nat} {w w1:ae}
theorem qE.to (h:qE cl db mb es ck w) (kc:w1.heap[cl]?=w.heap[cl]?) (kd:∀i,i<4->w1.heap[db i]?=w.heap[db i]?) (km:∀i,i<4->w1.heap[mb i]?=w.heap[mb i]?):qE cl db mb es ck w1:=
 ⟨λi hi=>(yw (a:=⟨cl,1+i*3+1,none⟩) kc).trans (h.d i hi),λi hi=>(kd i hi).trans (h.b i hi),λi hi=>(km i hi).trans (h.m i hi)⟩
theorem qE.ltc (h:qE cl db mb es ck w):cl<w.heap.size:=by
 have:=h.d 0 (by decide);unfold aE at this;cases e:w.heap[cl]? with
 |none=>simp[e]at this
 |some o=>exact(yc e).1
theorem qE.ltd (h:qE cl db mb es ck w) (i:Nat) (hi:i<4):db i<w.heap.size:=(yc (h.b i hi)).1
theorem qE.ltm (h:qE cl db mb es ck w) (i:Nat) (hi:i<4):mb i<w.heap.size:=(yc (h.m i hi)).1
theorem qE.old (h:qE cl db mb es ck w) (k:∀b,b<w.heap.size->w1.heap[b]?=w.heap[b]?):qE cl db mb es ck w1:=
 h.to (k _ h.ltc) (λi hi=>k _ (h.ltd i hi)) (λi hi=>k _ (h.ltm i hi))
end
section
variable {cl:Nat} {db mb:Nat->Nat} {es:Nat->Array bk} {ck:Nat->Nat} {s t:ByteArray} {m:Nat->Nat} {rows:Nat->List ag} {cb ab tb C Wg:Nat} {F:Blocks} {w w1:ae}
structure FxS (cl:Nat) (db mb:Nat->Nat) (es:Nat->Array bk) (ck:Nat->Nat) (cb ab tb:Nat) (s t:ByteArray) (F:Blocks) (w:ae):Prop where
 clu:qE cl db mb es ck w
 c:w.cell? ⟨cb,0,none⟩=some (.pointer (some ⟨cl,0,none⟩))
 f:w.cell? ⟨ab,0,none⟩=some (.string s)
 t:w.cell? ⟨tb,0,none⟩=some (.string t)
 Fc:F cb
 Ff:F ab
 Ft:F tb
 Fl:F cl
 Fd:∀i,i<4->F (db i)
 Fm:∀i,i<4->F (mb i)
theorem FxS.ext (h:FxS cl db mb es ck cb ab tb s t F w) (e:Ext F w w1):FxS cl db mb es ck cb ab tb s t F w1:=
 ⟨h.clu.to (e.keep _ h.Fl) (λi hi=>e.keep _ (h.Fd i hi)) (λi hi=>e.keep _ (h.Fm i hi)),(yw (a:=⟨cb,0,none⟩) (e.keep _ h.Fc)).trans h.c,(yw (a:=⟨ab,0,none⟩) (e.keep _ h.Ff)).trans h.f,(yw (a:=⟨tb,0,none⟩) (e.keep _ h.Ft)).trans h.t,h.Fc,h.Ff,h.Ft,h.Fl,h.Fd,h.Fm⟩
theorem FxS.sub {F':Blocks} (h:FxS cl db mb es ck cb ab tb s t F w) (k:∀b,F b->F' b):FxS cl db mb es ck cb ab tb s t F' w:=⟨h.clu,h.c,h.f,h.t,k _ h.Fc,k _ h.Ff,k _ h.Ft,k _ h.Fl,λi hi=>k _ (h.Fd i hi),λi hi=>k _ (h.Fm i hi)⟩
theorem PZ {Fp:aC->Prop} {ρ:Rel}:∀{l l':List ag},jq Fp ρ l l'->(∀x∈l,∃s,x=.string s)->l'=l
 |_,_,.nil,_=>rfl
 |_,_,.cons a b,h=>by
  obtain⟨s,rfl⟩:=h _ (.head _);cases a;rw[PZ b λx hx=>h x (.tail _ hx)]
theorem q6j {Sh:Nat->Prop} {v v':ag} {w:ae} (h:ng (λ_=>True) w v n xs) (hv:VR (λf=>fbP f=true) ρ v v') (hw:WN (XW Sh) ρ w w'):ng (rng ρ) w' v' n xs:=by
 refine⟨h.1,?_⟩;rcases h.2 with⟨rfl,e⟩|⟨g,cap,cur,rfl,_,h2,h3,h4,h5,h6⟩
 ·cases hv;exact .inl ⟨rfl,e⟩
 ·cases hv with
  | @slice b b' o sp n c hr=>
   obtain⟨τ,_,k⟩:=hw;obtain⟨o1,o2,k1,k2,k3⟩:=k.heap hr;have k1:w.heap[g]?=some o1:=k1;rw[h2]at k1;cases k1;cases k3 with
   | @cells c c' e z z' hc hz=>
    have JZ:c'=cur:=by
     have:=PZ hc h6;exact Array.ext' this
    subst JZ;have yG:z'=(0,0):=hz.elim id id;subst yG;exact .inr ⟨b',cap,c',rfl,⟨_,hr⟩,k2,h3,h4,h5,h6⟩
theorem XU (hCW:C≠Wg) (iL:∀i,i<4->∀(F:aC->Prop) ρ,EsR F ρ (es i).toList (es i).toList)
  (wE:∀i,i<4->∀wl,wl.heap[db i]?=some (.cells #[.map (some (mb i))] 109 (0,1))->wl.heap[mb i]?=some (.map (es i) (ck i))->bi prog 26 #[.pointer (some ⟨db i,0,none⟩),.string s,.string t] wl fun|.returned v,w'=>ng (λ_=>True) w' v (m i) (rows i)|_,_=>False)
  (i:Nat) (hi:i<4) (F:Blocks) (w:ae) (kb:Nat) (hx:FxS cl db mb es ck cb ab tb s t F w) (hF:FOk F (λ_=>False) w) (hk:F kb) (hc:w.cell? ⟨kb,0,none⟩=some (.int .i64 i)):
  Script prog link.tWg Wg C 4 (λi F v w=>ng F w v (m i) (rows i)) i F (born prog (xV Wg cb kb ab tb C)) w:=by
 refine Z0 (qw:=λi F v w=>ng F w v (m i) (rows i)) (cl:=cl) (dp:=.pointer (some ⟨db i,0,none⟩)) (s:=.string s) (t:=.string t) hi hCW (λF v w w1 h e=>h.ext e.keep) (λF v w h=>?_) ⟨hc,hx.c,hx.f,hx.t,hx.clu.d i hi,hk,hx.Fc,hx.Ff,hx.Ft,hx.Fl⟩ hF λc cs w1 e=>?_
 ·rcases h.2 with⟨rfl,_⟩|⟨g,cap,cur,rfl,_⟩
  ·exact⟨none,0,0,rfl⟩
  ·exact⟨_,_,_,rfl⟩
 ·have Ah:=hx.ext e;have eD:db i≠mb i:=λe=>by
   have h1:=Ah.clu.b i hi;rw[e,Ah.clu.m i hi]at h1;cases h1
  exact q1k (R:=λv w=>ng (λ_=>True) w v (m i) (rows i)) (qw:=λF v w=>ng F w v (m i) (rows i)) (hF.ext e) (hx.Fd i hi) (hx.Fm i hi) eD (Ah.clu.b i hi) (Ah.clu.m i hi) (iL i hi) (wE i hi) (λv w τ h=>h.ext λ_ _=>rfl) (λρ v v' w w' h1 h2 h3=>q6j h1 h2 h3)
   (λF F' v w h k=>⟨h.1,h.2.imp id λ⟨g,cap,cur,h1,h2,h3⟩=>⟨g,cap,cur,h1,k g h2,h3⟩⟩) c cs
end
noncomputable def P0:Code:=match rH with|.seq a _=>a|_=>.skip
noncomputable def P1:Code:=match rH with|.seq _ (.seq a _)=>a|_=>.skip
noncomputable def P3:Code:=match rH with|.seq _ (.seq _ (.seq a _))=>a|_=>.skip
theorem QD:rH=.seq P0 (.seq P1 (.seq P3 (.seq (.region 4 R4 false) zW))):=rfl
noncomputable def R5:Array Oper:=match zW with|.seq (.seq a _) _=>rg a|_=>#[]
theorem Wx:zW=.seq (.seq (.region 5 R5 false) (.block 0 (.loop sL))) sR:=rfl
theorem Tp:codeOk XG.P XG.P fb true P0=true:=by kernel_rfl
theorem Tn:codeOk XG.P XG.P fb true P1=true:=by kernel_rfl
theorem okP3:codeOk XG.P XG.P fb true P3=true:=by kernel_rfl
def S0 (cl:Nat) (s t:ByteArray) (most:Int) (n:Nat) (gu O3 O0:ag):Array ag:=
 #[.pointer (some ⟨cl,0,none⟩),.string s,.string t,.int .i64 most,.pointer (some ⟨n,0,none⟩),.pointer (some ⟨n+1,0,none⟩),.pointer (some ⟨n+1+1,0,none⟩),ac,.slice none 0 0,.int .i64 0,gu,ac,ac,ac,ac,ac,O3,O0,ac,ac,ac,ac,ac,ac,ac,ac,ac,ac,ac,ac,ac,ac,ac,ac,ac,ac,ac,ac,ac,ac,ac,ac]
structure HE (h:Array Obj) (w w':ae):Prop where
 heap:w'.heap=h
 os:w'.os=w.os
 output:w'.output=w.output
theorem HE.same {h:Array Obj} {w2:ae} (k:HE h w w1) (s:Same w1 w2):HE h w w2:=⟨s.heap.trans k.heap,s.os.trans k.os,s.output.trans k.output⟩
def H0 (cl:Nat) (s t:ByteArray) (w:ae):Array Obj:=((w.heap.push (.cells #[.pointer (some ⟨cl,0,none⟩)] 27)).push (.cells #[.string s] 9)).push (.cells #[.string t] 9)
def H1 (cl:Nat) (s t:ByteArray) (w:ae):Array Obj:=(H0 cl s t w).push (.cells #[.slice none 0 0,.slice none 0 0,.slice none 0 0,.slice none 0 0] 75)
theorem Iz {t:ByteArray}:(H0 cl s t w).size=w.heap.size+3:=by simp[H0]
theorem q2w {t:ByteArray}:(H1 cl s t w).size=w.heap.size+4:=by simp[H1,Iz]
section
variable {cl:Nat} {s t:ByteArray} {most:Int} {w:ae} {Q:Exit->Act->ae->Prop} {gu O3 O0:ag} {n:Nat}
theorem Sl (h:Q .normal ⟨S0 cl s t most w.heap.size ac ac ac,[]⟩ (((w.alloc (.cells #[.pointer (some ⟨cl,0,none⟩)] 27)).alloc (.cells #[.string s] 9)).alloc (.cells #[.string t] 9))):
  Code.wp prog P0 Q ⟨#[.pointer (some ⟨cl,0,none⟩),.string s,.string t,.int .i64 most,ac,ac,ac,ac,ac,ac,ac,ac,ac,ac,ac,ac,ac,ac,ac,ac,ac,ac,ac,ac,ac,ac,ac,ac,ac,ac,ac,ac,ac,ac,ac,ac,ac,ac,ac,ac,ac,ac],[]⟩ w:=by
 unfold P0 rH;unfold S0 at h;simp only[Try.f11,cC];go_wp2;exact h
theorem jih (h0:0<=most) (h:Q .normal ⟨S0 cl s t most n ac (.int .i64 most) (.bool false),[]⟩ w):Code.wp prog P1 Q ⟨S0 cl s t most n ac ac ac,[]⟩ w:=by
 unfold P1 rH;unfold S0 at*;simp only[Try.f11,cC];have hd:decide (most<0)=false:=xdf (by omega);clear h0;go_wp2;exact h
theorem jii (h:Q .normal ⟨S0 cl s t most n (.pointer (some ⟨w.heap.size,0,none⟩)) (.int .i64 most) (.bool false),[]⟩ (w.alloc (.cells #[.slice none 0 0,.slice none 0 0,.slice none 0 0,.slice none 0 0] 75))):
  Code.wp prog P3 Q ⟨S0 cl s t most n ac (.int .i64 most) (.bool false),[]⟩ w:=by
 unfold P3 rH;unfold S0 at*;simp only[Try.f11,cC];go_wp2;exact h
end
section
variable {N:Blocks} {kv:List ag} {cl:Nat} {s t:ByteArray} {most:Int} {w:ae} {cs dX:List ak} {Z:ak->ae->Prop}
theorem Wv (h0:0<=most) (h1:most<=9223372036854775807)
  (nx:∀w1,HE (H1 cl s t w) w w1->qc N kv cs (bS.at ⟨S0 cl s t most w.heap.size (.pointer (some ⟨w.heap.size+3,0,none⟩)) (.int .i64 most) (.bool false),[]⟩ (.inRegion R4 [0]::[.code zW])) w1 dX Z):
  qc N kv cs (aq XG.P fS #[.pointer (some ⟨cl,0,none⟩),.string s,.string t,.int .i64 most] .normal) w dX Z:=by
 have he:aq XG.P fS #[.pointer (some ⟨cl,0,none⟩),.string s,.string t,.int .i64 most] .normal=bS.at ⟨#[.pointer (some ⟨cl,0,none⟩),.string s,.string t,.int .i64 most,ac,ac,ac,ac,ac,ac,ac,ac,ac,ac,ac,ac,ac,ac,ac,ac,ac,ac,ac,ac,ac,ac,ac,ac,ac,ac,ac,ac,ac,ac,ac,ac,ac,ac,ac,ac,ac,ac],[]⟩ [.code rH]:=by
  show aq prog fS _ .normal=_;rw[enter_at _ func11 (show Try.f11.body=some rH from rfl)];have hn:Try.f11.ntmps=42:=rfl;rw[hn];simp only[aY,cw,List.length_nil,aI,Nat.reduceSub,Array.replicate_succ,Array.replicate_zero,List.push_toArray,List.append_toArray,List.nil_append,List.cons_append];rfl
 rw[he,QD];refine qc.seq ?_;refine qc.code rfl (Q:=λe a w'=>e=.normal/\a=⟨S0 cl s t most w.heap.size ac ac ac,[]⟩/\HE (H0 cl s t w) w w') Tp (by rintro e a w ⟨rfl,_⟩;trivial) (λe a w wc s h=>⟨h.1,h.2.1,h.2.2.same s⟩) (λwc hs=>?_) ?_
 ·refine Sl ⟨rfl,?_,?_⟩
  ·rw[hs.heap]
  ·refine⟨?_,hs.os,hs.output⟩;show((wc.heap.push _).push _).push _=_;rw[hs.heap];rfl
 rintro _ _ w1 fr ⟨rfl,rfl,yH⟩ rfl;refine qc.seq ?_;refine qc.code rfl (Q:=λe a w'=>e=.normal/\a=⟨S0 cl s t most w.heap.size ac (.int .i64 most) (.bool false),[]⟩/\HE (H0 cl s t w) w w') Tn (by rintro e a w ⟨rfl,_⟩;trivial) (λe a w wc s h=>⟨h.1,h.2.1,h.2.2.same s⟩) (λwc hs=>?_) ?_
 ·exact jih h0 ⟨rfl,rfl,yH.same hs⟩
 rintro _ _ w2 fr ⟨rfl,rfl,nu⟩ rfl;refine qc.seq ?_;refine qc.code rfl (Q:=λe a w'=>e=.normal/\a=⟨S0 cl s t most w.heap.size (.pointer (some ⟨w.heap.size+3,0,none⟩)) (.int .i64 most) (.bool false),[]⟩/\HE (H1 cl s t w) w w') okP3 (by rintro e a w ⟨rfl,_⟩;trivial) (λe a w wc s h=>⟨h.1,h.2.1,h.2.2.same s⟩) (λwc hs=>?_) ?_
 ·have hz:wc.heap.size=w.heap.size+3:=by rw[hs.heap,nu.heap,Iz]
  refine jii ⟨rfl,?_,?_⟩
  ·rw[hz]
  ·refine⟨?_,hs.os.trans nu.os,hs.output.trans nu.output⟩;show wc.heap.push _=_;rw[hs.heap,nu.heap];rfl
 rintro _ _ w3 fr ⟨rfl,rfl,FZ⟩ rfl;refine qc.seq ?_;refine qc.region ?_;exact nx w3 FZ
end
theorem KY {F:aC->Prop} {ρ:Rel}:∀{l:List ag},(∀x∈l,VR F ρ x x)->jq F ρ l l
 |[],_=>.nil
 |_::_,h=>.cons (h _ (.head _)) (KY λx hx=>h x (.tail _ hx))
theorem jc1 {C:Nat} (hS:¬SB C) (hB:C<B):EvZ SB B ⟨.cell ⟨C,i,none⟩,false,false⟩:=
 PL (F:=λb=>b=C) (O:=λ_=>False) ⟨rfl,rfl,λh=>by cases h⟩ (λb h=>by rw[h];exact hS) (λb h=>by rw[h];exact hB)
section
variable {SB:Blocks} {Z:ak->ae->Prop} {k:List Item} {cs:List ak} {ρ0:Rel} {w0:ae} {lv:Nat->ag} {m:Nat->Nat} {rows:Nat->List ag} {most:Nat} {Gb:Blocks} {C:Nat} {T:Array ag}
theorem tAll (Gw:T.getD 3 ac=.int .i64 most) (OO:T.getD 10 ac=.pointer (some ⟨C,0,none⟩)) (eT:T.size=42) (hc:∀i,i<4->w0.cell? ⟨C,i,none⟩=some (lv i)) (hC:C<w0.heap.size) (hCS:¬SB C)
  (hw:WR XG ρ0 w0 w0) (mJ:NB w0) (Cn:∀b,rng ρ0 b->¬SB b)
  (hG:∀b,Gb b->b<w0.heap.size/\ρ0 b b) (hr:∀i,i<4->ng Gb w0 (lv i) (m i) (rows i)) (Ar:∀b,SB b->b<w0.heap.size) (hm:∀i,i<4->m i<=268435456) (Dn:most<=9223372036854775807)
  (hZ:∀T' nQ ρ' w',TlS ρ0 w0 SB (jH most m rows 4).1 (jH most m rows 4).2 nQ ρ' w'->T'.size=42->T'.getD 8 ac=nQ->T'.getD 9 ac=.int .i64 0->∀d,Z {bS.at ⟨T',[]⟩ (.code .ret::k)with mode:=.returning} (w'.at d)):
  BGo cs (bS.at ⟨T,[]⟩ (.code sT::k)) w0 SB Z:=by
 refine BGo.sil ji3 ?_;have Nn:TH (T.setIfInBounds 13 (.slice none 0 0)) [(13,.slice none 0 0),(10,.pointer (some ⟨C,0,none⟩)),(3,.int .i64 most)]:=
  TH.set (l:=[(10,.pointer (some ⟨C,0,none⟩)),(3,.int .i64 most)]) ⟨eT,λp hp=>by
   rcases bd.1 hp with rfl|hp
   ·exact OO
   ·rcases bd.1 hp with rfl|hp
    ·exact Gw
    ·cases hp⟩ _ (by decide) (by simp)
 generalize T.setIfInBounds 13 (.slice none 0 0)=T1 at Nn⊢;obtain⟨o,ho,dU,hd,hg⟩:∃o,R13[0]?=some o/\o.op=.load 75 (.tmp 10)/\o.dst=some 25/\o.guard=none:=⟨_,rfl,rfl,rfl,rfl⟩
 have dQ:aa o (ax R13 (ah T1 []).tmps)=true:=by unfold aa;rw[hg]
 have GL:(ah T1 []).eval (.tmp 10)=.pointer (some ⟨C,0,none⟩):=Nn.2 (10,.pointer (some ⟨C,0,none⟩)) (by simp);have ev:∀d,(ai (ah T1 []).eval o).run prog (w0.at d)=.ok (.value (.agg #[lv 0,lv 1,lv 2,lv 3])) (w0.at d)/\(ai (ah T1 []).eval o).events prog (w0.at d) #[]=#[⟨.cell ⟨C,0,none⟩,false,false⟩,⟨.cell ⟨C,1,none⟩,false,false⟩,⟨.cell ⟨C,2,none⟩,false,false⟩,⟨.cell ⟨C,3,none⟩,false,false⟩]:=λd=>by
  have h0:(w0.at d).cell? ⟨C,0,none⟩=some (lv 0):=hc 0 (by decide);have h1:(w0.at d).cell? ⟨C,1,none⟩=some (lv 1):=hc 1 (by decide);have h2:(w0.at d).cell? ⟨C,2,none⟩=some (lv 2):=hc 2 (by decide);have h3:(w0.at d).cell? ⟨C,3,none⟩=some (lv 3):=hc 3 (by decide);generalize (ah T1 []).eval=e at*;generalize w0.at d=w at*;unfold ai;constructor
  ·simp[go_sem,dU,GL,h0,h1,h2,h3]
  ·simp[go_sem,dU,GL,h0,h1,h2,h3]
 refine BGo.one rfl λd=>⟨_,w0.at d,_,aU ho dQ (by decide) (ev d).1,jm _,λe he=>?_,?_⟩
 ·have:=bj he;rw[(ev d).2]at this;simp at this;rcases this with rfl|rfl|rfl|rfl<;>exact jc1 hCS hC
 rw[hd];have J3:TH (T1.setIfInBounds 25 (.agg #[lv 0,lv 1,lv 2,lv 3])) [(25,.agg #[lv 0,lv 1,lv 2,lv 3]),(13,.slice none 0 0),(3,.int .i64 most)]:=Nn.set _ (by decide) (by simp);change BGo cs (bS.at ⟨T1.setIfInBounds 25 (.agg #[lv 0,lv 1,lv 2,lv 3]),[]⟩ (.inRegion R13 [1]::_)) _ _ _;generalize T1.setIfInBounds 25 (.agg #[lv 0,lv 1,lv 2,lv 3])=T2 at J3⊢;obtain⟨o1,vH,iJ,hd1,jB⟩:∃o,R13[1]?=some o/\o.op=.move (.const (.int .i64 0))/\o.dst=some 26/\o.guard=none:=⟨_,rfl,rfl,rfl,rfl⟩
 refine BGo.val J3 (.int .i64 ((0:Nat):Int)) vH hd1 jB (by decide) (l':=[(25,.agg #[lv 0,lv 1,lv 2,lv 3]),(13,.slice none 0 0),(3,.int .i64 most)]) (by simp) (λe he hc w=>?_) λT3 Gw=>?_
 ·have bc:=hc (.int .i64 0);unfold ai;constructor
  ·simp[go_sem,iJ,bc]
  ·simp[go_sem,iJ,bc]
 refine BGo.sil (Sil.ctl (λw1=>am) (Sil.ctl (λw1=>bo) (Sil.ctl (λw1=>stepG_loop) (.refl _ _)))) ?_;have MO:TlS ρ0 w0 SB (jH most m rows 0).1 (jH most m rows 0).2 (.slice none 0 0) ρ0 (w0.at d):=
  TlS.at ⟨Rel.le_refl ρ0,hw,.ji _ _,mJ,World.ownsRow_nil _ _ _ _,λ_ _=>rfl,jm _,Cn,rfl,rfl⟩ d
 refine ji1 (fs:=#[lv 0,lv 1,lv 2,lv 3]) (lv:=lv) (λi hi=>?_) hG hr Ar hm Dn (λT' nQ ρ' w' h' uE=>?_) 4 0 rfl T3 _ ρ0 _ MO (Gw.sub (by simp))
 ·match i,hi with
  |0,_=>rfl
  |1,_=>rfl
  |2,_=>rfl
  |3,_=>rfl
 ·refine BGo.sil (tEnd uE.1 (uE.2 (13,nQ) (by simp))) (BGo.done λd=>?_);refine hZ _ nQ ρ' w' h' (by simp[uE.1]) ?_ ?_ d
  ·rw[ql (by decide)];exact ze (by simp[uE.1])
  ·exact ze (by simp[uE.1])
end
theorem QE {T:Array ag}:(results Try.f11 T).runT prog w #[]=(.ok (.tuple #[T.getD 8 ac,T.getD 9 ac]) w,#[]):=by
 have e:Try.f11.results=#[.tmp 8,.tmp 9]:=rfl;simp[results,e,go_sem]
section
variable {N:Blocks} {kv:List ag} {cl:Nat} {db mb:Nat->Nat} {es:Nat->Array bk} {ck:Nat->Nat} {s t:ByteArray} {m:Nat->Nat} {rows:Nat->List ag} {w:ae} {most:Nat}
theorem FB {Fp:aC->Prop} {T:Array ag} {o:Nat} (h:jq Fp ρ T.toList T.toList) (e:T.getD j ac=.pointer (some ⟨b,o,none⟩)):ρ b b:=by
 have:=jq.Dr h j;rw[e]at this;cases this with
 |ptr h=>exact h
theorem XT (Jz:qE cl db mb es ck w) (iL:∀i,i<4->∀(F:aC->Prop) ρ,EsR F ρ (es i).toList (es i).toList)
  (wE:∀i,i<4->∀wl,wl.heap[db i]?=some (.cells #[.map (some (mb i))] 109 (0,1))->wl.heap[mb i]?=some (.map (es i) (ck i))->bi prog 26 #[.pointer (some ⟨db i,0,none⟩),.string s,.string t] wl fun|.returned v,w'=>ng (λ_=>True) w' v (m i) (rows i)|_,_=>False)
  (hm:∀i,i<4->m i<=268435456) (Dn:most<=9223372036854775807) (hN:∀b,N b->b<w.heap.size):
  ul N kv fS #[.pointer (some ⟨cl,0,none⟩),.string s,.string t,.int .i64 most] w λv w'=>
   ∃ov,v=.tuple #[ov,.int .i64 0]/\w'.ownsRow w.heap.size 44 2 ov (jH most m rows 4).1 (jH most m rows 4).2/\(∀b,b<w.heap.size->w'.heap[b]?=w.heap[b]?)/\w.heap.size<=w'.heap.size/\w'.os=w.os/\w'.output=w.output:=by
 intro c cs;refine Wv (most:=(most:Int)) (by omega) (by omega) λw3 FZ=>?_;intro wc hs gs sl t0 SB ρ' q OH hNS hK0;have gy:=OH.diag;have hK:∀v∈kv,VR XG.F (dg ρ') v v:=λv hv=>(hK0 v hv).right;have Uq:∀a b,dg ρ' a b->a=b:=λa b h=>h.1;generalize dg ρ'=ρ at gy Uq hK;have DT:wc.heap=H1 cl s t w:=hs.heap.trans FZ.heap;have MN:wc.heap.size=w.heap.size+4:=by rw[DT,q2w]
 have old:∀b,b<w.heap.size->wc.heap[b]?=w.heap[b]?:=λb hb=>by
  rw[DT];unfold H1 H0;rw[aj,if_neg (by simp;omega),aj,if_neg (by simp;omega),aj,if_neg (by simp;omega),aj,if_neg (by omega)]
 have Jt:qE cl db mb es ck wc:=Jz.old old;have hcb:wc.heap[w.heap.size]?=some (.cells #[.pointer (some ⟨cl,0,none⟩)] 27):=by
  rw[DT];unfold H1 H0;rw[aj,if_neg (by simp;omega),aj,if_neg (by simp;omega),aj,if_neg (by simp),aj,if_pos rfl]
 have gB:wc.heap[w.heap.size+1]?=some (.cells #[.string s] 9):=by
  rw[DT];unfold H1 H0;rw[aj,if_neg (by simp),aj,if_neg (by simp),aj,if_pos (by simp)]
 have htb:wc.heap[w.heap.size+1+1]?=some (.cells #[.string t] 9):=by
  rw[DT];unfold H1 H0;rw[aj,if_neg (by simp),aj,if_pos (by simp)]
 have hCb:wc.heap[w.heap.size+3]?=some (.cells #[.slice none 0 0,.slice none 0 0,.slice none 0 0,.slice none 0 0] 75):=by
  rw[DT];unfold H1;rw[aj,if_pos (by rw[Iz])]
 -- what is reached
 have tm:jq XG.F ρ (S0 cl s t most w.heap.size (.pointer (some ⟨w.heap.size+3,0,none⟩)) (.int .i64 most) (.bool false)).toList (S0 cl s t most w.heap.size (.pointer (some ⟨w.heap.size+3,0,none⟩)) (.int .i64 most) (.bool false)).toList:=(gy.fr rfl).tmps;have Pg:ρ cl cl:=FB (j:=0) tm rfl;have Vs:ρ w.heap.size w.heap.size:=FB (j:=4) tm rfl;have Vt:ρ (w.heap.size+1) (w.heap.size+1):=FB (j:=5) tm rfl;have Vp:ρ (w.heap.size+1+1) (w.heap.size+1+1):=FB (j:=6) tm rfl;have rC:ρ (w.heap.size+3) (w.heap.size+3):=FB (j:=10) tm rfl;have Pf:∀i,i<4->ρ (db i) (db i):=λi hi=>by
  obtain⟨v',h1,h2⟩:=gy.wr.cell (a:=⟨cl,1+i*3+1,none⟩) (a':=⟨cl,1+i*3+1,none⟩) ⟨Pg,rfl,rfl⟩ (Jt.d i hi);rw[Jt.d i hi]at h1;cases h1;cases h2 with|ptr h=>exact h
 have Vq:∀i,i<4->ρ (mb i) (mb i):=λi hi=>by
  have iQ:wc.cell? ⟨db i,0,none⟩=some (.map (some (mb i))):=by simp[aE,Jt.b i hi]
  obtain⟨v',h1,h2⟩:=gy.wr.cell (a:=⟨db i,0,none⟩) (a':=⟨db i,0,none⟩) ⟨Pf i hi,rfl,rfl⟩ iQ;rw[iQ]at h1;cases h1;cases h2 with|map h=>exact h
 have Da:∀b,rng ρ b->b<wc.heap.size:=λb ⟨a,h⟩=>(gy.wr.bound h).2
 -- the group
 obtain⟨jV,d1,iN,t1,q1,h1,z1,g1,L1,p1,Ux,wI⟩:=XQ (SB:=SB) (sl:=sl) gy.g0 gy.leavers gy.past;rw[MN]at Ux wI
 -- to the OY head
 let Ta:Array ag:=(S0 cl s t most w.heap.size (.pointer (some ⟨w.heap.size+3,0,none⟩)) (.int .i64 most) (.bool false)).setIfInBounds 11 (.pointer (some ⟨w.heap.size+4,0,none⟩))
 have g1:jV[0]?=some (G (bS.at ⟨Ta,[]⟩ (.inRegion R4 []::[.code zW])) (c::cs)):=by rw[MN]at g1;exact g1
 let w4:ae:=wN (wc.at d1)
 have Jj:∀b,b<wc.heap.size->w4.heap[b]?=wc.heap[b]?:=λb hb=>by
  show(wc.heap.push _)[b]?=_;rw[aj,if_neg (by omega)]
 have hz4:w4.heap.size=w.heap.size+5:=by
  show(wc.heap.push _).size=_;rw[Array.size_push,MN]
 have hz4':(wN (wc.at d1)).heap.size=w.heap.size+5:=hz4
 let F:Blocks:=λb=>rng ρ b/\b≠w.heap.size+3
 have xO:FOk F (λ_=>False) w4:=⟨λb hb=>by have:=Da b hb.1;omega,λ_ h=>h.elim⟩
 have dW:=Jz.ltc;have Ky:∀{b:Nat} {v:ag} {ty:co},b<wc.heap.size->wc.heap[b]?=some (.cells #[v] ty)->w4.cell? ⟨b,0,none⟩=some v:=λ{b v ty} hb e=>by
  simp[aE,Jj b hb,e]
 have hFx:FxS cl db mb es ck w.heap.size (w.heap.size+1) (w.heap.size+1+1) s t F w4:=
  ⟨Jt.old Jj,Ky (by omega) hcb,Ky (by omega) gB,Ky (by omega) htb,⟨⟨_,Vs⟩,by omega⟩,⟨⟨_,Vt⟩,by omega⟩,⟨⟨_,Vp⟩,by omega⟩,⟨⟨_,Pg⟩,by omega⟩,λi hi=>⟨⟨_,Pf i hi⟩,by have:=Jz.ltd i hi;omega⟩,λi hi=>⟨⟨_,Vq i hi⟩,by have:=Jz.ltm i hi;omega⟩⟩
 have hnW:¬F (w.heap.size+4):=λh=>by have:=Da _ h.1;omega
 have hH:ScH (.int .i64 most) w.heap.size (w.heap.size+1) (w.heap.size+1+1) (w.heap.size+3) (w.heap.size+4) 0 (Ta.setIfInBounds 18 (.int .i64 ((0:Nat):Int))):=⟨rfl,rfl,rfl,rfl,rfl,rfl,rfl,rfl⟩
 have Gt:WG prog true (Scr prog link.tWg (w.heap.size+4) (w.heap.size+3) 4 (λi F v w=>ng F w v (m i) (rows i)) (KS (.int .i64 most) w.heap.size (w.heap.size+1) (w.heap.size+1+1) (w.heap.size+3) (w.heap.size+4) [] (c::cs)) 4) F (λ_=>False) (G (bS.at ⟨Ta,[]⟩ (.inRegion R4 []::[.code zW])) (c::cs)) w4:=by
  refine WG.ctl rfl xO (λw1=>am) ?_;rw[Wx];refine WG.ctl rfl xO (λw1=>aB) ?_;refine WG.ctl rfl xO (λw1=>aB) ?_;refine WG.ctl rfl xO (λw1=>ay) ?_;change WG _ _ _ _ _ (G (bS.at ⟨Ta,[]⟩ (.inRegion R5 [0]::_)) (c::cs)) w4;obtain⟨o,ho,dU,hd,hg⟩:∃o,R5[0]?=some o/\o.op=.move (.const (.int .i64 0))/\o.dst=some 18/\o.guard=none:=⟨_,rfl,rfl,rfl,rfl⟩
  have dQ:aa o (ax R5 (ah Ta []).tmps)=true:=by unfold aa;rw[hg]
  refine WG.value (.int .i64 ((0:Nat):Int)) xO ho dQ (by decide) (λw1 _=>?_) ?_
  ·have bc:(ah Ta []).eval (.const (.int .i64 0))=.int .i64 0:=rfl;generalize (ah Ta []).eval=e at*;unfold ai;constructor
   ·simp[go_sem,dU,bc]
   ·simp[go_sem,dU,bc]
  rw[hd];change WG _ _ _ _ _ (G (bS.at ⟨Ta.setIfInBounds 18 (.int .i64 ((0:Nat):Int)),[]⟩ (.inRegion R5 []::_)) (c::cs)) w4;refine WG.ctl rfl xO (λw1=>am) ?_;refine WG.ctl rfl xO (λw1=>bo) ?_;refine WG.ctl rfl xO (λw1=>stepG_loop) ?_;exact starter (Fx:=FxS cl db mb es ck w.heap.size (w.heap.size+1) (w.heap.size+1+1) s t) (λF w w1 h e=>h.ext e) (λF F' w h k=>h.sub k)
   (λi hi F w kb hx hF hk hc=>XU (m:=m) (rows:=rows) (by omega) iL wE i hi F w kb hx hF hk hc) (λF O w T hT hF _ _=>jiu hT hF) 4 0 rfl _ F (λ_=>False) w4 hH xO hFx hnW (by omega)
 have kV:PayAt (w.heap.size+3) 4 w4:=⟨_,(Jj _ (by omega)).trans hCb,rfl⟩
 have Dp:=gy.foot;obtain⟨N3,gs3,a3,w5,O9,t3,D,FM,q3,h3,hJ⟩:=phase (P:=prog) (ty:=link.tWg) (Wg:=w.heap.size+4) (C:=w.heap.size+3) (n:=4) (SB:=SB) (qw:=λi F v w=>ng F w v (m i) (rows i)) (L0:=w.heap.size+3) (sl:=iN) (λi F v w w1 h e=>h.ext e.keep) (by decide) g1 L1 p1 wI Gt Ux kV
  (λb hb=>⟨by have:=Da b hb.1;omega,by have:=Da b hb.1;omega,hb.2,Dp.apart b hb.1⟩) (λ_ h=>h.elim) (by omega) (by omega) (λb hb=>by have:=Dp.low b hb;omega) (by omega) (λh=>by have:=Dp.low _ h;omega) (λh=>Dp.apart _ ⟨_,rC⟩ h) (by omega) (jm _) (λ_ h=>h.elim)
 obtain⟨N4,UF,T,d4,O8,t4,q4,h4,z4,g4,hT,L4,p4⟩:=Yc (sl:=O9) hJ
 -- the tail
 let w6:ae:=w5.at d4
 have Ko:∀b,b<w.heap.size+3->w6.heap[b]?=wc.heap[b]?:=λb hb=>(hJ.kept.keep b hb).trans (Jj b (by omega))
 let Gb:Blocks:=λb=>∃i n cap,i<4/\(D i).val=.slice (some ⟨b,0,none⟩) n cap
 let ρ0:Rel:=λa b=>ρ a b\/(a=b/\Gb b)
 have TR:ρ.le ρ0:=λ_ _ h=>.inl h;have Eu:∀a b,ρ0 a b->a=b:=λa b h=>h.elim (Uq a b) (·.1);have oZ:∀i,i<4->ng Gb w6 (D i).val (m i) (rows i):=λi hi=>by
  have h:=(hJ.res i hi).1;refine⟨h.1,h.2.imp id ?_⟩;rintro⟨g,cap,cur,k1,k2,k3⟩;exact⟨g,cap,cur,k1,⟨i,_,_,hi,k1⟩,k3⟩
 have Ns:∀b,Gb b->∃cur,w6.heap[b]?=some (.cells cur 44 (0,0))/\(∀x∈cur.toList,∃s,x=.string s)/\b<w6.heap.size/\b≠w.heap.size+4/\¬SB b:=by
  rintro b ⟨i,n,cap,hi,e⟩;have h:=(hJ.res i hi).1;rcases h.2 with⟨e2,_⟩|⟨g,cap2,cur,e2,k2,k3,_,_,_,k6⟩
  ·rw[e]at e2;cases e2
  ·rw[e]at e2;cases e2;have:=hJ.sep.wF i hi b k2;exact⟨cur,k3,k6,this.1,this.2.1,this.2.2.2⟩
 have iQ:∀i,i<4->w6.cell? ⟨w.heap.size+3,i,none⟩=some (D i).val:=λi hi=>(hJ.res i hi).2;obtain⟨pc,F6,hps⟩:=hJ.pay;have F6:w6.heap[w.heap.size+3]?=some (.cells pc Payload.ety):=F6;have NZ:∀i,i<4->VR XG.F ρ0 (D i).val (D i).val:=λi hi=>by
  rcases(oZ i hi).2 with⟨e,_⟩|⟨g,cap,cur,e,k1,_⟩
  ·rw[e];exact .ji _ _
  ·rw[e];exact .slice (.inr ⟨rfl,k1⟩)
 have vF:WR XG ρ0 w6 w6:=by
  refine⟨λh1 h2=>(Eu _ _ h1).symm.trans (Eu _ _ h2),λh1 h2=>(Eu _ _ h1).trans (Eu _ _ h2).symm,λ{a b} gB=>?_,λ_ _=>rfl,λa h=>h.elim⟩;obtain rfl:=Eu a b gB;rcases gB with gB|⟨_,hb⟩
  ·by_cases e:a=w.heap.size+3
   ·subst e;refine⟨_,_,F6,F6,.cells (KY λx hx=>?_) (.inl rfl)⟩;obtain⟨j,hj,e⟩:=List.mem_iff_getElem.1 hx;have yS:j<4:=by simpa[hps]using hj
    have:=iQ j yS;simp only[aE,F6]at this;have vE:pc[j]?=some x:=by rw[<-e];simp
    rw[vE]at this;cases this;exact NZ j yS
   ·obtain⟨o,o',k1,k2,k3⟩:=gy.wr.heap gB;have GY:a<w.heap.size+3:=by have:=Da a ⟨_,gB⟩;omega
    exact⟨o,o',(Ko a GY).trans k1,(Ko a GY).trans k2,k3.mono TR⟩
  ·obtain⟨cur,k1,k2,_⟩:=Ns a hb;refine⟨_,_,k1,k1,.cells (KY λx hx=>?_) (.inl rfl)⟩;obtain⟨s,rfl⟩:=k2 x hx;exact .string s
 have hz6:w.heap.size+5<=w6.heap.size:=by
  have:=hJ.sep.lW;show _<=w5.heap.size;omega
 have Om:NB w4:=NB.push (w:=wc.at d1) (λ_ _ e=>by cases e) gy.nb;have Cn:∀b,rng ρ0 b->¬(SB b\/b=w.heap.size+4):=by
  rintro b ⟨a,gB|⟨_,hb⟩⟩ hs
  ·rcases hs with hs|hs
   ·exact Dp.apart b ⟨a,gB⟩ hs
   ·have:=Da b ⟨a,gB⟩;omega
  ·obtain⟨_,_,_,_,k1,k2⟩:=Ns b hb;rcases hs with hs|hs
   ·exact k2 hs
   ·exact k1 hs
 have Ar:∀b,(SB b\/b=w.heap.size+4)->b<w6.heap.size:=by
  rintro b (hb|hb)
  ·have:=Dp.low b hb;omega
  ·omega
 have OI:=tAll (SB:=λb=>SB b\/b=w.heap.size+4) (k:=[]) (cs:=c::cs) (ρ0:=ρ0) (w0:=w6) (lv:=λi=>(D i).val) (m:=m) (rows:=rows) (most:=most) (Gb:=Gb) (C:=w.heap.size+3) (T:=T.setIfInBounds 24 (.tuple #[]))
  (Z:=λfr w7=>∃ov ρ7,TlS ρ0 w6 (λb=>SB b\/b=w.heap.size+4) (jH most m rows 4).1 (jH most m rows 4).2 ov ρ7 w7/\Leaves fr (.tuple #[ov,.int .i64 0]))
  ((ql (by decide)).trans hT.t3) ((ql (by decide)).trans hT.t10) (by simp[hT.size]) iQ (by omega) (λh=>Cn _ ⟨_,.inl rC⟩ h) vF (hJ.kept.nb Om) Cn (λb hb=>⟨(let⟨_,_,_,k,_⟩:=Ns b hb;k),.inr ⟨rfl,hb⟩⟩) oZ Ar hm Dn
  (λT' nQ ρ7 w7 h7 hs7 h8 h9 d=>⟨nQ,ρ7,h7.at d,⟨rfl,rfl,rfl,_,func11,λw=>by
   have:=QE (w:=w) (T:=T');rw[h8,h9]at this
   exact this⟩⟩)
 obtain⟨gs7,fr7,w7,Vo,t7,q7,h7,z7,⟨ov,ρ7,vM,qR⟩,g7,L7,p7⟩:=OI d4 UF O8 t4 q4 g4 L4 p4;have Oc:Sil prog fr7 (c::cs) (c.finish (.tuple #[ov,.int .i64 0])) cs:=.step (λw=>RY qR) (.refl _ _);obtain⟨gs8,d8,Vn,t8,q8,h8,z8,g8,L8,p8⟩:=Oc.runs (sl:=Vo) g7 L7 p7;have hle:ρ.le ρ7:=Rel.le_trans TR vM.le;have TJ:=vM.at d8;refine⟨gs8,_,w7.at d8,Vn,t8,_,ρ7,q8,?_,⟨_,rfl,ov,rfl,?_,λb hb=>?_,?_⟩,⟨g8,L8,p8,⟨vM.apart,λb hb=>xll (Ar b hb) vM.size,λb ⟨a,h,_⟩=>⟨a,h⟩,λb ⟨a,h⟩=>(TJ.wr.bound h).2⟩,?_,λc' nD hb=>(gy.cs c' (.tail _ nD) hb).mono hle,TJ.wr,vM.nb⟩,λb hb hs=>hs.elim (hNS b hb) λe=>by have:=hN b hb;omega,λv hv=>(hK v hv).mono hle⟩
 ·exact(h1.trans ⟨N3,h3⟩).trans ((show Runs prog gs3 w5 O9 t3 UF (w5.at d4) O8 t4 from⟨N4,h4⟩).trans (h7.trans h8))
 ·have:=vM.own;refine⟨this.1,this.2.imp id ?_⟩;rintro⟨g,cap,cur,k1,k2,k3⟩;exact⟨g,cap,cur,k1,by omega,k3⟩
 ·exact(vM.keep b (by omega)).trans ((Ko b (by omega)).trans (old b hb))
 ·refine⟨?_,(vM.os.trans hJ.kept.os).trans (hs.os.trans FZ.os),(vM.output.trans hJ.kept.output).trans (hs.output.trans FZ.output)⟩;have:=vM.size;show _<=w7.heap.size;omega
 ·intro hb;exact FSt.finish ((gy.cs c (.head _) (by rw[<-Frame.Q0 c];exact hb)).mono hle) (.tuple (.cons vM.vr (.cons (.int _ _) .nil)))
end
end
section
open Go Go.Conc Go.ConcN Sim
theorem XE {v:ag} (h:Leaves fr v) (hi:XG.P.inits.idxOf? fr.fn=none):aT XG.P true (G fr []) w=.ended (.done v) w #[]:=by
 obtain⟨hm,hd,hk,fn,hf,hr⟩:=h;rw[zo _ _ _ _ _ hm];obtain⟨D9,Hq,SI,Fv,ED,EU,Pb⟩:=fr;obtain rfl:Fv=[]:=hd;obtain rfl:ED=.returning:=hm;obtain rfl:EU=.normal:=hk;have hf:XG.P.funcs[D9]?=some fn:=hf;have hi:XG.P.inits.idxOf? D9=none:=hi;have hr:(results fn Hq).runT XG.P w #[]=(.ok v w,#[]):=hr w;unfold unwind;dsimp only;rw[hf];dsimp only;rw[hr];simp[doReturn,hi,GStep.after,seen]
theorem WK (W:ae):vz (λ_=>False) W 1 #[]:=
 ⟨⟨0,λsaid=>by rintro⟨i,j,_,⟨a,b,ha,_⟩,_⟩;simp[Trace.act?]at ha,λi a ha=>by simp[touchAt,Trace.act?]at ha,λi g hg=>by simp[Trace.g?]at hg,rfl,by simp⟩,by simp,λi a ha=>by simp[touchAt,Trace.act?]at ha,
  λi op x hi=>by simp at hi,by simp⟩
theorem q3x {W:ae} {Post:ag->ae->Prop} {N:Blocks} {kv:List ag} (h:qc N kv [] fr W [] (y9 f R)) (jJ:FSb ρ fr) (vF:WR XG ρ W W) (vK:∀v∈kv,VR XG.F ρ v v) (hi:XG.P.inits.idxOf? f=none) (hp:∀v w wc,Same w wc->R v w->Post v wc):
  ∃M last o w' t',runNT XG.P (M+1) (solo (G fr []) W) #[]=(.ended o w',t')/\runN XG.P M (solo (G fr []) W)=.next last/\step XG.P last=.ended o w'/\Conc.Good XG.P Post last o w' t':=by
 have gy:Co XG fb blG (λ_=>False) ρ #[G fr []] fr [] W #[] (λ_=>0):=
  ⟨rfl,leavers_one _ _,WK W,⟨λ_ _ h=>h,λ_ h=>h.elim,λb ⟨a,h,_⟩=>⟨a,h⟩,λb ⟨a,h⟩=>(vF.bound h).2⟩,jJ,(λc hc=>by cases hc),vF,trivial⟩
 obtain⟨eH,dY,w',sl',t',NI,ρ',q',⟨N,hr⟩,⟨qV,v,hl,hv,hR⟩,hc,_,_⟩:=h W (Same.refl _) _ none _ _ _ _ gy (λ_ _ h=>h) vK;obtain⟨B,hP⟩:=hc.past.past;obtain⟨N2,last,o,w2,t2,k1,k2,k3,k4⟩:=beside_ends (P:=XG.P) (D:=λ_ _ _=>False) (Post:=Post) (n:=0) (w:=w') (sl:=sl') (λ_ _ _ h=>h.elim) hc.g0 hc.leavers hP (λw1 yH=>by
  obtain⟨d,e⟩:=yH;subst e
  exact⟨rfl,v,#[],XE hl (by rw[qV];exact hi),by simp,hp v _ _ (Same.at w' d) hR⟩)
 have dZ:runNT XG.P (N+(N2+1)) (solo (G fr []) W) #[]=(.ended o w2,t2):=runNT_trans N hr k1;have e1:runN XG.P N (solo (G fr []) W)=.next (crowd eH w' sl'):=by
  rw[<-runNT_fst _ _ _ #[]];exact congrArg Prod.fst hr
 refine⟨N+N2,last,o,w2,t2,dZ,?_,k3,k4⟩;have:runNT XG.P (N+N2) (solo (G fr []) W) #[]=runNT XG.P N2 (crowd eH w' sl') t':=runNT_trans N hr rfl;rw[<-runNT_fst _ _ _ #[],this,runNT_fst];exact k2
section
variable {N:Blocks} {kv:List ag} {cs dX:List ak} {w:ae} {Z:ak->ae->Prop} {b:ak} {a:Act} {k:List Item}
end
section
variable {N:Blocks} {kv:List ag} {cs dX:List ak} {w:ae} {Z:ak->ae->Prop} {b:ak} {a:Act} {k:List Item}
end
end
end Ph
section
open Go.RowKit
def letter (b:UInt8):Bool:=decide (97<=b.toNat)&&decide (b.toNat<=122)
def mr (l:List UInt8):Bool:=decide (0<l.length)&&(decide (l.length<=8)&&l.all letter)
def shd (b:Nat):Nat:=if b<=103 then 0 else if b<=109 then 1 else if b<=116 then 2 else 3
def jw (l:List UInt8):Nat:=shd ((l.headD 0).toNat)
theorem YT (s:ByteArray) (k:Nat) (h:k<s.size):(s.data.toList.take (k+1)).all letter=((s.data.toList.take k).all letter&&letter s[k]):=by
 have:s.data.toList.take (k+1)=s.data.toList.take k++[s[k]]:=by
  rw[List.take_succ_eq_append_getElem (by simpa using h)];rfl
 rw[this,List.all_append];simp
def Mq (w:ae) (e:cx) (w':ae):Prop:=e=.returned (.tuple #[.int .i64 0,.bool false])/\aV w.heap.size w w'
def jck (k:Nat) (w:ae) (e:cx) (w':ae):Prop:=e=.returned (.tuple #[.int .i64 k,.bool true])/\aV w.heap.size w w'
theorem toList_nil (h:s.size=0):s.toList=[]:=by
 rw[ByteArray.toList_eq];apply aw;simpa using h
theorem Ja (h:0<s.size):s.toList.isEmpty=false:=by
 rw[ByteArray.toList_eq];cases e:s.data.toList with
 |nil=>
  have:s.data.toList.length=0:=by rw[e];rfl
  have h2:s.data.toList.length=s.size:=by simp
  omega
 |cons a l=>rfl
theorem q1e (s:ByteArray) (w:ae) (h:s.size=0\/8<s.size) (hs:s.size<=aJ):bi prog 20 #[.string s] w (Mq w):=by
 unfold aJ at hs;rcases h with h|h
 ·have MQ:s.toList=[]:=toList_nil h;have iR:s.toList.isEmpty=true:=by rw[MQ];rfl
  go_enter func20,ntmps20;go_wp2;go_ret2;exact⟨rfl,zi _ _⟩
 ·have iR:s.toList.isEmpty=false:=Ja (by omega);have rQ:decide ((8:Int)<s.size)=true:=by simp;omega
  go_enter func20,ntmps20;go_wp2;go_ret2;exact⟨rfl,zi _ _⟩
theorem XL (b:UInt8):letter b=true↔97<=b.toNat/\b.toNat<=122:=by simp[letter]
theorem Fh (s:ByteArray) (w:ae) (h:mr s.data.toList=true):bi prog 20 #[.string s] w (jck (jw s.data.toList) w):=by
 simp only[mr,aP,decide_eq_true_eq,bw,XL]at h;obtain⟨h0,h8,hl⟩:=h;have h0:0<s.size:=by simpa using h0
 have h8:s.size<=8:=by simpa using h8
 have iR:s.toList.isEmpty=false:=Ja h0;have rQ:decide ((8:Int)<s.size)=false:=by simp;omega
 have HL:=Hd hl;clear hl;go_enter func20,ntmps20;go_wp2;go_loopw [5] (λ_ w'=>∃pos,pos<=s.size/\w'=w.iter s pos) (λ_ w'=>s.size-w'.iterPos w.heap.size);case atStart=>exact⟨0,xzl _,rfl⟩
 case round=>
  obtain⟨pos,hle,rfl⟩:=hrel;by_cases hp:pos<s.size
  ·have dW:=HL.o s[pos] (by simp[aW]);have ha:(s[pos]'hp).toNat<128:=by omega
   have g1:decide (((s[pos]'hp).toNat:Int)<97)=false:=by simp;omega
   have g2:decide ((122:Int)<((s[pos]'hp).toNat:Int))=false:=by simp;omega
   have F9:∀ty,(Instr.next (.pointer (some ⟨w.heap.size,0,none⟩)) true ty).run prog (w.iter s pos)=_:=λty=>run_next_ascii w s pos ty hp ha;go_wp2;go_roundw;case rel=>exact⟨pos+1,by omega,rfl⟩
   case measure=>simp;omega
  ·have F9:∀ty,(Instr.next (.pointer (some ⟨w.heap.size,0,none⟩)) true ty).run prog (w.iter s pos)=_:=λty=>run_next_end w s pos ty hp;have hh:jw s.data.toList=shd (s[0]'h0).toNat:=by
    unfold jw;cases e:s.data.toList with
    |nil=>
     have:s.data.toList.length=s.size:=by simp
     rw[e]at this;simp at this;omega
    |cons a l=>
     have:s[0]=a:=by
      have h1:s[0]=s.data.toList[0]'(by simpa using h0):=by simp[aW]
      rw[h1];simp[e]
     rw[this];rfl
   have HH:=Hd hh;clear hh;have he:aV w.heap.size w (w.iter s pos):=(zi _ _).alloc (jm _) _;go_wp2;all_goals
    go_ret2;refine⟨?_,he⟩;rw[HH.o];unfold shd
   ·rw[if_pos (by omega)];rfl
   ·rw[if_neg (by omega),if_pos (by omega)];rfl
   ·rw[if_neg (by omega),if_neg (by omega),if_pos (by omega)];rfl
   ·rw[if_neg (by omega),if_neg (by omega),if_neg (by omega)];rfl
theorem jaw (s:ByteArray) (w:ae) (h0:0<s.size) (h8:s.size<=8) (hl:¬s.data.toList.all letter=true):bi prog 20 #[.string s] w (Mq w):=by
 have iR:s.toList.isEmpty=false:=Ja h0;have rQ:decide ((8:Int)<s.size)=false:=by simp;omega
 have HL:=Hd hl;clear hl;go_enter func20,ntmps20;go_wp2;go_loopw [5] (λ_ w'=>∃pos,pos<=s.size/\w'=w.iter s pos/\(s.data.toList.take pos).all letter=true) (λ_ w'=>s.size-w'.iterPos w.heap.size);case atStart=>exact⟨0,xzl _,rfl,by simp⟩
 case round=>
  obtain⟨pos,hle,rfl,fE⟩:=hrel;have HA:=Hd fE;clear fE;by_cases hp:pos<s.size
  ·have he:aV w.heap.size w (w.iter s (pos+(Utf8.decode s pos).2)):=(zi _ _).alloc (jm _) _;by_cases ha:(s[pos]'hp).toNat<128
   ·have F9:∀ty,(Instr.next (.pointer (some ⟨w.heap.size,0,none⟩)) true ty).run prog (w.iter s pos)=_:=λty=>run_next_ascii w s pos ty hp ha;have he:aV w.heap.size w (w.iter s (pos+1)):=(zi _ _).alloc (jm _) _;by_cases h1:(s[pos]'hp).toNat<97
    ·have g1:decide (((s[pos]'hp).toNat:Int)<97)=true:=by simp;omega
     go_wp2;go_ret2;exact⟨rfl,he⟩
    ·have g1:decide (((s[pos]'hp).toNat:Int)<97)=false:=by simp;omega
     by_cases h2:122<(s[pos]'hp).toNat
     ·have g2:decide ((122:Int)<((s[pos]'hp).toNat:Int))=true:=by simp;omega
      go_wp2;go_ret2;exact⟨rfl,he⟩
     ·have g2:decide ((122:Int)<((s[pos]'hp).toNat:Int))=false:=by simp;omega
      have dW:letter s[pos]=true:=by simp[letter];omega
      have hn:(s.data.toList.take (pos+1)).all letter=true:=by rw[YT s pos hp,HA.o,dW];rfl
      have HN:=Hd hn;clear hn dW;go_wp2;go_roundw;case rel=>exact⟨pos+1,by omega,rfl,HN.o⟩
      case measure=>simp;omega
   ·have hdh:=decode_high s pos hp (by omega);have F9:∀ty,(Instr.next (.pointer (some ⟨w.heap.size,0,none⟩)) true ty).run prog (w.iter s pos)=_:=λty=>run_next_any w s pos ty hp;have g1:decide (((Utf8.decode s pos).1:Int)<97)=false:=by simp;omega
    have g2:decide ((122:Int)<((Utf8.decode s pos).1:Int))=true:=by simp;omega
    go_wp2;go_ret2;exact⟨rfl,he⟩
  ·exact absurd (by have e:=HA.o;rwa [List.take_of_length_le (by simp;omega)]at e) HL.o
theorem Mr (s:ByteArray) (w:ae) (h:mr s.data.toList=false) (hs:s.size<=aJ):bi prog 20 #[.string s] w (Mq w):=by
 by_cases h0:s.size=0\/8<s.size
 ·exact q1e s w h0 hs
 ·refine jaw s w (by omega) (by omega) λhl=>?_;have:mr s.data.toList=true:=by
   simp only[mr,aP,decide_eq_true_eq];exact⟨by simp;omega,by simp;omega,hl⟩
  rw[h]at this;cases this
end
section
open Go.RowKit Go.Maps
abbrev Bs:=List UInt8
abbrev KV:=List (Bs×Bs)
def sv (l:Bs):ag:=.string ⟨l.toArray⟩
def Rv:ag->Option (DataW Unit×List MemPlace)
 |.agg cs=>match cs.toList with
  |[.string s]=>some (.agg [.lit (.string s.data.toList)],[])
  |_=>none
 |_=>none
def ev (v:Bs):DataW Unit:=.agg [.lit (.string v)]
def DM (L:KV):DataW Unit:=.map (L.map λp=>(.string p.1,ev p.2))
def jf (w:ae) (mb:Nat) (L:KV):Prop:=w.ownsMap prog 9 Rv mb L.length (DM L)
theorem PO {v:ag} {b:Bs} {ps:List MemPlace} (h:Rv v=some (ev b,ps)):v=.agg #[sv b]:=by
 cases v with
 |agg cs=>
  obtain⟨l⟩:=cs;simp only[Rv]at h;split at h
  ·rename_i s;simp only[Option.some.injEq,Prod.mk.injEq,ev]at h;obtain⟨h1,_⟩:=h;injection h1 with h1;injection h1 with h1 _;injection h1 with h1;injection h1 with h1;subst h1;rfl
  ·cases h
 |_=>cases h
def jr (L:KV) (k:Bs):Option Bs:=(L.find? (λp=>p.1==k)).map (·.2)
theorem q3q (L:KV) (k:Bs):(L.map λp=>((aN p.1:Lit),ev p.2)).find? (λp=>p.1.sameKey (.string k))=(L.find? (λp=>p.1==k)).map λp=>(.string p.1,ev p.2):=by
 induction L with
 |nil=>rfl
 |cons p L ih=>
  rw[aS,bI,bI,ih];have:((aN p.1).sameKey (.string k))=(p.1==k):=rfl;rw[this];cases p.1==k<;>rfl
theorem QM (L:KV) (k:Bs) (z:DataW Unit):(DM L).atKey (.string k) z=match jr L k with|some v=>ev v|none=>z:=by
 unfold DM DataW.atKey jr;dsimp only;rw[q3q];cases L.find? (λp=>p.1==k)<;>rfl
theorem ZB (L:KV) (k:Bs):Maps.has (DM L) (.string k)=(jr L k).isSome:=by
 unfold DM jr;rw[Maps.has_eq,Option.isSome_map,List.any_map];induction L with
 |nil=>rfl
 |cons p L ih=>
  rw[List.any_cons,bI,ih];have e:((λp:Lit×DataW Unit=>p.1.sameKey (.string k))∘λp:Bs×Bs=>((aN p.1:Lit),ev p.2)) p=(p.1==k):=rfl;rw[e];cases p.1==k<;>rfl
theorem Iq (L:KV):Maps.size (DM L)=L.length:=by simp[DM,Maps.size]
theorem jf.of {L:KV} (h:w.ownsMap prog 9 Rv mb n (DM L)):jf w mb L:=by
 obtain⟨es,clock,hb,F,hs,hD⟩:=h;refine⟨es,clock,hb,F,?_,hD⟩;have h1:Maps.size (DM L)=es.size:=by rw[hD];simp[Maps.size,length_sorted]
 rw[Iq]at h1;omega
theorem jf.block {L:KV} (h:jf w mb L) (k:w'.heap[mb]?=w.heap[mb]?):jf w' mb L:=by
 obtain⟨es,clock,hb,F⟩:=h;exact⟨es,clock,k.trans hb,F⟩
theorem PX (w:ae):(zeroValue 111).run prog w=.ok (.agg #[.string ⟨#[]⟩]) w:=by kernel_rfl
theorem Ii (s:ByteArray) (hs:s.size<=aJ):keyOf prog 9 (.string s)=some (.string s.data.toList):=WideMaps.keyOf_string_mk underlying9 hs
section
variable {w:ae} {db mb:Nat} {L:KV}
theorem jgi (hd:w.cell? ⟨db,0,none⟩=some (.map (some mb))) (hm:jf w mb L):bi prog 37 #[.pointer (some ⟨db,0,none⟩)] w λe w'=>e=.returned (.int .i64 L.length)/\w'=w:=by
 have fe:=hm;have hlen:=λty=>fe.len underlying107 ty;rw[Iq]at hlen;clear fe hm;go_enter func37,ntmps37;go_wp2;go_ret;exact⟨rfl,rfl⟩
theorem q3w (hm:jf w mb L) (s:ByteArray) (hs:s.size<=aJ):(Instr.lookup 107 (.map (some mb)) (.string s) true).run prog w=.ok (.tuple #[.agg #[sv ((jr L s.data.toList).getD [])],.bool (jr L s.data.toList).isSome]) w:=by
 have fe:=hm;obtain⟨v,ps,dZ,hv⟩:=fe.look_ok (string_keyed underlying9) underlying107 (PX w) (zd:=ev []) (zp:=[]) rfl (Ii s hs);rw[ZB]at dZ;rw[QM]at hv;have:Rv v=some (ev ((jr L s.data.toList).getD []),ps):=by
  rw[hv];cases jr L s.data.toList<;>rfl
 rw[dZ,PO this]
def Qs (w:ae) (x:Option Bs) (e:cx) (w':ae):Prop:=e=.returned (.tuple #[sv (x.getD []),.bool x.isSome])/\aV w.heap.size w w'
theorem Kr (hd:w.cell? ⟨db,0,none⟩=some (.map (some mb))) (hm:jf w mb L) (s:ByteArray) (hs:s.size<=aJ):bi prog 21 #[.pointer (some ⟨db,0,none⟩),.string s] w (Qs w (jr L s.data.toList)):=by
 have hg:=q3w hm s hs;clear hm;unfold Qs;generalize jr L s.data.toList=x at*;unfold sv at*;generalize (⟨(x.getD []).toArray⟩:ByteArray)=bs at*;go_enter func21,ntmps21;go_wp2;go_ret2;exact⟨rfl,(zi _ _).alloc (jm _) _⟩
end
structure But (B:Nat->Prop) (w w':ae):Prop where
 size:w.heap.size<=w'.heap.size
 keep:∀k,k<w.heap.size->¬B k->w'.heap[k]?=w.heap[k]?
 os:w'.os=w.os
 output:w'.output=w.output
theorem But.refl (B:Nat->Prop) (w:ae):But B w w:=⟨jm _,λ_ _ _=>rfl,rfl,rfl⟩
theorem But.trans {B:Nat->Prop} {b c:ae} (h:But B a b) (k:But B b c):But B a c:=
 ⟨xlt h.size k.size,λi hi hb=>(k.keep i (xll hi h.size) hb).trans (h.keep i hi hb),k.os.trans h.os,k.output.trans h.output⟩
theorem But.mono {B B':Nat->Prop} (h:But B w w') (k:∀b,B b->B' b):But B' w w':=⟨h.size,λi hi hb=>h.keep i hi λx=>hb (k i x),h.os,h.output⟩
theorem But.drew {B:Nat->Prop} (h:But B w w'):But B w w'.drew:=⟨h.size,h.keep,h.os,h.output⟩
theorem But.of_below {B:Nat->Prop} (h:aV w.heap.size w w'):But B w w':=⟨h.size,λi hi _=>h.block i hi,h.os,h.output⟩
def ins (k v:Bs):KV->KV
 |[]=>[(k,v)]
 |p::L=>if ao k p.1 then(k,v)::p::L else p::ins k v L
def Bt (L:KV) (k v:Bs):KV:=ins k v (L.filter λp=>!(p.1==k))
def xR (L:KV) (k:Bs):KV:=L.filter λp=>!(p.1==k)
theorem Q6 (L:KV) (k:Bs):((L.map λp=>((aN p.1:Lit),ev p.2)).filter λp=>!p.1.sameKey (.string k))=(xR L k).map λp=>(.string p.1,ev p.2):=by
 induction L with
 |nil=>rfl
 |cons p L ih=>
  have e:((aN p.1).sameKey (.string k))=(p.1==k):=rfl;rw[aS,cz,ih];unfold xR;rw[cz];rw[e];cases p.1==k<;>rfl
theorem ZJ (L:KV) (k:Bs):(DM L).del (.string k)=DM (xR L k):=by
 unfold DM DataW.del;dsimp only;rw[Q6]
theorem W9 (L:KV) (k v:Bs):DataW.insert ((aN k:Lit),ev v) (L.map λp=>((aN p.1:Lit),ev p.2))=(ins k v L).map λp=>(.string p.1,ev p.2):=by
 induction L with
 |nil=>rfl
 |cons p L ih=>
  rw[aS];unfold DataW.insert ins;have e:((aN k).before (aN p.1))=ao k p.1:=rfl;rw[e];cases ao k p.1
  ·simp[ih]
  ·rfl
theorem ja1 (L:KV) (k v:Bs):(DM L).put (.string k) (ev v)=DM (Bt L k v):=by
 unfold DM DataW.put;dsimp only;rw[Q6,W9];rfl
section
variable {w:ae} {db mb:Nat} {L:KV}
theorem q52 (hm:jf w mb L) (hL:L.length<1073741823) (k v:ByteArray) (hk:k.size<=aJ):
  ∃w',(Instr.mapUpdate 107 (.map (some mb)) (.string k) (.agg #[.string v])).run prog w=.ok () w'/\jf w' mb (Bt L k.data.toList v.data.toList)/\But (· =mb) w w':=by
 have h1:Rv (.agg #[.string v])=some (ev v.data.toList,[]):=rfl;obtain⟨w',dZ,ho,hg⟩:=World.ownsMap.update hm (string_keyed underlying9) underlying107 (by unfold aJ;omega) (Ii k hk) h1;rw[ja1]at ho;exact⟨w',dZ,.of ho,⟨hg.size,λi hi hb=>hg.block i hi (by simpa using hb),hg.os,hg.output⟩⟩
theorem q3i (hm:jf w mb L) (k:ByteArray) (hk:k.size<=aJ) (ty:co):
  ∃w',(Builtin.delete_ #[107,9] ty #[.map (some mb),.string k]).run prog w=.ok (.tuple #[]) w'/\jf w' mb (xR L k.data.toList)/\But (· =mb) w w':=by
 obtain⟨w',dZ,ho,⟨es,ck,gP,UJ,hb,rfl⟩⟩:=World.ownsMap.drop hm (string_keyed underlying9) underlying107 (Ii k hk) ty;rw[ZJ]at ho;exact⟨_,dZ,.of ho,⟨by simp[ChangeMaps.setBlock],λi hi hn=>ChangeMaps.heap_setBlock_other hb _ hn,rfl,rfl⟩⟩
def KL (w:ae) (mb:Nat) (L:KV) (e:cx) (w':ae):Prop:=e=.returned (.tuple #[])/\jf w' mb L/\But (· =mb) w w'
theorem Fj (hd:w.cell? ⟨db,0,none⟩=some (.map (some mb))) (hm:jf w mb L) (hL:L.length<1073741823) (k v:ByteArray) (hk:k.size<=aJ):
  bi prog 38 #[.pointer (some ⟨db,0,none⟩),.agg #[.string k,.string v,.bool false]] w (KL w mb (Bt L k.data.toList v.data.toList)):=by
 go_enter func38,ntmps38;go_wp2;have dW:db<w.heap.size:=xbl w ⟨db,0,none⟩ hd;have c0:(w.alloc (.cells #[.string k,.string v,.bool false] 74)).cell? ⟨w.heap.size,0,none⟩=some (.string k):=by go_simp
 have c1:(w.alloc (.cells #[.string k,.string v,.bool false] 74)).cell? ⟨w.heap.size,1,none⟩=some (.string v):=by go_simp
 have cd:(w.alloc (.cells #[.string k,.string v,.bool false] 74)).cell? ⟨db,0,none⟩=some (.map (some mb)):=(xcb (aO w _ dW)).trans hd;have hB:But (· =mb) w (w.alloc (.cells #[.string k,.string v,.bool false] 74)):=.of_below ((zi _ _).alloc (jm _) _);have Ml:=hm.lt;have DX:jf (w.alloc (.cells #[.string k,.string v,.bool false] 74)) mb L:=hm.block (aO w _ Ml);generalize w.alloc (.cells #[.string k,.string v,.bool false] 74)=W at*;obtain⟨w2,dZ,Gc,Nu⟩:=q52 (w:=W.drew) (DX.block rfl) hL k v hk;refine aF 11 (by kernel_rfl) (by kernel_rfl) ?_;change wpStill _ _ W.drew (λa'=>wpList _ _ _ _ a' W.drew) _ _;simp only[az,aZ,aA,ba];repeat still_step
 refine bp ?_;go_wp2;go_end0;exact⟨rfl,Gc,hB.drew.trans Nu⟩
theorem KM (hd:w.cell? ⟨db,0,none⟩=some (.map (some mb))) (hm:jf w mb L) (k v:ByteArray) (hk:k.size<=aJ):
  bi prog 38 #[.pointer (some ⟨db,0,none⟩),.agg #[.string k,.string v,.bool true]] w (KL w mb (xR L k.data.toList)):=by
 go_enter func38,ntmps38;go_wp2;have dW:db<w.heap.size:=xbl w ⟨db,0,none⟩ hd;have c0:(w.alloc (.cells #[.string k,.string v,.bool true] 74)).cell? ⟨w.heap.size,0,none⟩=some (.string k):=by go_simp
 have cd:(w.alloc (.cells #[.string k,.string v,.bool true] 74)).cell? ⟨db,0,none⟩=some (.map (some mb)):=(xcb (aO w _ dW)).trans hd;have hB:But (· =mb) w (w.alloc (.cells #[.string k,.string v,.bool true] 74)):=.of_below ((zi _ _).alloc (jm _) _);have Ml:=hm.lt;have DX:jf (w.alloc (.cells #[.string k,.string v,.bool true] 74)) mb L:=hm.block (aO w _ Ml);generalize w.alloc (.cells #[.string k,.string v,.bool true] 74)=W at*;obtain⟨w2,dZ,Gc,Nu⟩:=q3i (w:=W.drew) (DX.block rfl) k hk 0;refine aF 7 (by kernel_rfl) (by kernel_rfl) ?_;change wpStill _ _ W.drew (λa'=>wpList _ _ _ _ a' W.drew) _ _;simp only[az,aZ,aA,ba];repeat still_step
 refine bp ?_;go_wp2;go_end0;exact⟨rfl,Gc,hB.drew.trans Nu⟩
end
end
section
theorem DJ:∀a:Bs,ao a a=false
 |[]=>rfl
 |x::r=>by simp[ao,DJ r]
theorem QK:∀{a b c:Bs},ao a b=true->ao b c=true->ao a c=true
 |[],[],[],h,_=>h
 |[],_::_,[],_,h=>by simp[ao]at h
 |[],_,_::_,_,_=>rfl
 |_::_,[],_,h,_=>by simp[ao]at h
 |_::_,_::_,[],_,h=>by simp[ao]at h
 |x::r,y::s,z::t,h,k=>by
  simp only[ao,cG,decide_eq_true_eq,aP,beq_iff_eq]at*;rcases h with h|⟨h,h2⟩<;>rcases k with k|⟨k,k2⟩
  ·exact .inl (UInt8.lt_trans h k)
  ·subst k;exact .inl h
  ·subst h;exact .inl k
  ·subst h;subst k;exact .inr ⟨rfl,QK h2 k2⟩
theorem Lj:∀a b:Bs,ao a b=true\/a=b\/ao b a=true
 |[],[]=>.inr (.inl rfl)
 |[],_::_=>.inl rfl
 |_::_,[]=>.inr (.inr rfl)
 |x::r,y::s=>by
  simp only[ao,cG,decide_eq_true_eq,aP,beq_iff_eq,List.cons.injEq];rcases bh (UInt8.le_refl x)with h|h
  ·exact absurd h (UInt8.lt_irrefl x)
  ·rcases UInt8.le_total x y with h1|h1
   ·rcases bh h1 with h2|h2
    ·exact .inl (.inl h2)
    ·subst h2;rcases Lj r s with h3|h3|h3
     ·exact .inl (.inr ⟨rfl,h3⟩)
     ·exact .inr (.inl ⟨rfl,h3⟩)
     ·exact .inr (.inr (.inr ⟨rfl,h3⟩))
   ·rcases bh h1 with h2|h2
    ·exact .inr (.inr (.inl h2))
    ·subst h2;rcases Lj r s with h3|h3|h3
     ·exact .inl (.inr ⟨rfl,h3⟩)
     ·exact .inr (.inl ⟨rfl,h3⟩)
     ·exact .inr (.inr (.inr ⟨rfl,h3⟩))
theorem QL {a b:Bs} (h:ao a b=true):ao b a=false:=by
 cases e:ao b a with
 |false=>rfl
 |true=>have:=QK h e;rw[DJ]at this;cases this
theorem jcu {a b:Bs} (h:ao a b=true):(a==b)=false:=by
 rw[beq_eq_false_iff_ne];rintro rfl;rw[DJ]at h;cases h
theorem ZO {a b:Bs} (h:ao a b=true):(b==a)=false:=by
 rw[beq_eq_false_iff_ne];rintro rfl;rw[DJ]at h;cases h
def wP (L:KV):Prop:=L.Pairwise λa b=>ao a.1 b.1=true
def inB (s t:Bs) (p:Bs×Bs):Bool:=!ao p.1 s&&(t.isEmpty||ao p.1 t)
end
section
open Go.RowKit Go.Maps
def flat (L:KV):List ag:=L.flatMap λp=>[sv p.1,sv p.2]
theorem IW:flat []=[]:=rfl
theorem FL (p:Bs×Bs) (L:KV):flat (p::L)=sv p.1::sv p.2::flat L:=rfl
theorem RJ (A B:KV):flat (A++B)=flat A++flat B:=List.flatMap_append
theorem Yr (L:KV):(flat L).length=L.length*2:=by
 induction L with
 |nil=>rfl
 |cons p L ih=>rw[FL];simp only[cw,ih];omega
theorem QX:∀(L:KV) (k:Nat),(flat L).take (k*2)=flat (L.take k)
 |[],k=>by simp[IW]
 |p::L,0=>by simp[IW]
 |p::L,k+1=>by
  rw[FL,az,FL,show(k+1)*2=k*2+1+1 by omega,az,az,QX L k]
theorem QY:∀(L:KV) (k:Nat),(flat L).drop (k*2)=flat (L.drop k)
 |[],k=>by simp[IW]
 |p::L,0=>by simp
 |p::L,k+1=>by
  rw[FL,aA,show(k+1)*2=k*2+1+1 by omega,aA,aA,QY L k]
theorem flat_get:∀(L:KV) (k:Nat) (p:Bs×Bs),L[k]?=some p->(flat L)[k*2]?=some (sv p.1)/\(flat L)[k*2+1]?=some (sv p.2)
 |[],k,p,h=>by simp at h
 |q::L,0,p,h=>by simp at h;subst h;exact⟨rfl,rfl⟩
 |q::L,k+1,p,h=>by
  rw[FL,show(k+1)*2=k*2+1+1 by omega];simpa using flat_get L k p (by simpa using h)
def qC (w:ae) (v:ag):Prop:= ∀g,v.ownBlock=some g->∃cur ty,w.heap[g]?=some (.cells cur ty (0,0))/\∀x∈cur.toList,∃s,x=.string s
theorem qC.nil (w:ae):qC w (.slice none 0 0):=λg h=>by cases h
theorem WM:∃i,prog.info? 44=some i/\i.zero=some (.agg #[.string ⟨#[]⟩,.string ⟨#[]⟩])/\i.size=2/\i.bytes=32:=by
 have h:(prog.info? 44).map (λi=>(i.zero,i.size,i.bytes))=some (some (.agg #[.string ⟨#[]⟩,.string ⟨#[]⟩]),2,32):=by kernel_rfl
 obtain⟨i,h1,h2⟩:=aG.1 h;injection h2 with h2 h3;injection h3 with h3 h4;exact⟨i,h1,h2,h3,h4⟩
structure Src (w:ae) (sa:Option Addr) (m:Nat) (news:List ag):Prop where
 len:news.length=m*2
 cell:∀ad,sa=some ad->∀j u,news[j]?=some u->w.cell? (ad.add j)=some u
 zero:sa=none->m=0
 str:∀u∈news,∃s,u=.string s
theorem YP {z:Array ag} {x:ag} (hz:0<z.size) (h:x∈(aL z n).toList):x∈z.toList:=by
 unfold aL at h;simp only[Array.mem_toList_iff]at h⊢;rw[Array.mem_map]at h;obtain⟨i,_,rfl⟩:=h;have:i%z.size<z.size:=Nat.mod_lt _ hz;rw[getElem!_pos z _ this];exact Array.getElem_mem this
section
variable {w:ae} {base n m c:Nat} {v:ag} {xs news:List ag} {sa:Option Addr}
theorem q6c (ty:co) (fe:w.ownsRow base 44 2 v n xs) (ha:qC w v) (hs:Src w sa m news) (hb:n+m<=1073741824) (mq:base<=w.heap.size):
  ∃v' w',(aD #[40,40] ty #[v,.slice sa m c]).run prog w=.ok v' w'/\w'.ownsRow base 44 2 v' (n+m) (xs++news)/\qC w' v'/\w.grownBy w' v.ownBlock:=by
 obtain⟨i,hi,hz,eT,Ao⟩:=WM;have ht:prog.underlying 40=some (.slice 44):=underlying40;have hlen:(xs++news).length=(n+m)*2:=by rw[bX,fe.1,hs.len,Nat.add_mul]
 have hl:news.length=m*i.size:=by rw[eT];exact hs.len
 have one:∀u∈news,u.oneCell'=true:=λu hu=>by obtain⟨s,rfl⟩:=hs.str u hu;rfl
 have DR:∀x∈xs,∃s,x=.string s:=λx hx=>by
  rcases fe.2 with⟨_,rfl⟩|⟨g,cap,cur,rfl,_,hg,_,_,_,o6⟩
  ·have:xs=[]:=aw (by simpa using fe.1);subst this;cases hx
  ·obtain⟨lU,O6,h1,h2⟩:=ha g rfl;rw[hg]at h1;cases h1;rw[<-o6]at hx;exact h2 x (aM hx)
 have grown:∀(old:Nat),old<n+m->∀(row:Option Nat),
   (w.drew.alloc (.cells (xs.toArray++news.toArray++aL (Value.agg #[.string ⟨#[]⟩,.string ⟨#[]⟩]).cells (grownCap w (n+m) old 44-(n+m))) 44)).ownsRow base 44 2
    (.slice (some ⟨w.heap.size,0,none⟩) (n+m) (grownCap w (n+m) old 44)) (n+m) (xs++news)/\
   qC (w.drew.alloc (.cells (xs.toArray++news.toArray++aL (Value.agg #[.string ⟨#[]⟩,.string ⟨#[]⟩]).cells (grownCap w (n+m) old 44-(n+m))) 44)) (.slice (some ⟨w.heap.size,0,none⟩) (n+m) (grownCap w (n+m) old 44))/\
   w.grownBy (w.drew.alloc (.cells (xs.toArray++news.toArray++aL (Value.agg #[.string ⟨#[]⟩,.string ⟨#[]⟩]).cells (grownCap w (n+m) old 44-(n+m))) 44)) row:=by
  intro old ho row;have l7:=grownCap_ge w (n+m) old 44;have Ck:grownCap w (n+m) old 44<=aJ:=grownCap_le_maxLen w (n+m) old 44 (by unfold aJ;omega);refine⟨⟨hlen,.inr ⟨w.heap.size,_,_,rfl,mq,heap_alloc_new w.drew _,l7,Ck,?_,?_⟩⟩,?_,⟨rfl,rfl,rfl,by simp,λk hk _=>aO w.drew _ hk⟩⟩
  ·have:(Value.agg #[.string ⟨#[]⟩,.string ⟨#[]⟩]).cells.size=2:=rfl;have h1:=fe.1;have h2:=hs.len;rw[Array.size_append,Array.size_append,size_zeroCells,this,aY,aY];omega
  ·simp only[bR,cn];rw[<-cn,<-hlen];exact List.take_left
  ·intro g hg;cases hg;refine⟨_,_,heap_alloc_new w.drew _,λx hx=>?_⟩;simp only[bR,bJ]at hx;rcases hx with(hx|hx)|hx
   ·exact DR x hx
   ·exact hs.str x hx
   ·have hx:=YP (by decide) hx;have:x∈[Value.string ⟨#[]⟩,.string ⟨#[]⟩]:=hx;simp at this;exact⟨_,this⟩
 cases F5:sa with
 |none=>
  have hm:=hs.zero F5;subst hm;have hn:news=[]:=aw (by simpa using hs.len);subst hn;refine⟨v,w,?_,by simpa using fe,ha,⟨rfl,rfl,rfl,jm _,λ_ _ _=>rfl⟩⟩;rcases fe.2 with⟨rfl,rfl⟩|⟨g,cap,cur,rfl,h1,h2,h3,h4,h5,h6⟩
  ·simp[aD,aX ht,sizeOf,typeInfo,hi,bg,aH,loadCells,loadCellsFrom]
  ·simp[aD,aX ht,sizeOf,typeInfo,hi,bg,aH,loadCells,loadCellsFrom,storeCells,h3]
 |some ad=>
  have jG:=hs.cell ad F5;rcases fe.2 with⟨rfl,rfl⟩|⟨g,cap,cur,rfl,hbg,hg,DW,Ck,gD,o6⟩
  ·have hx:xs=[]:=aw (by simpa using fe.1);subst hx;by_cases hm:m=0
   ·subst hm;have hn:news=[]:=aw (by simpa using hs.len);subst hn;refine⟨.slice none 0 0,w,?_,by simpa using fe,ha,⟨rfl,rfl,rfl,jm _,λ_ _ _=>rfl⟩⟩;simp[aD,aX ht,sizeOf,typeInfo,hi,bg,aH,loadCells,loadCellsFrom]
   ·have hr:=run_append_nil (P:=prog) w 40 ty 44 i _ ht hi hz ad m c news hl jG (by omega) (by omega) (by rw[Ao];omega);have Al:=grown 0 (by omega) (Value.ownBlock (.slice none 0 0));simp only[ce,List.nil_append,Array.empty_append]at Al⊢;exact⟨_,_,hr,Al.1,Al.2.1,Al.2.2⟩
  ·by_cases kZ:n+m<=cap
   ·have rz:n*2+news.length<=cur.size:=by rw[hs.len,gD,<-Nat.add_mul];exact bO _ kZ
    have hr:=run_append_room (P:=prog) w 40 ty 44 i ht hi g n cap cur hg ad m c news hl jG one kZ (by rw[eT];exact rz);rw[eT]at hr;have hblk:=setRow_heap w g cur (cur.toList.take (n*2)++news++cur.toList.drop (n*2+news.length)).toArray 44 _ hg;refine⟨_,_,hr,⟨hlen,.inr ⟨g,cap,_,rfl,hbg,hblk,kZ,Ck,?_,?_⟩⟩,?_,⟨rfl,rfl,rfl,by simp,λk _ hk=>setRow_other w g k _ (λe=>hk (by simp[Value.ownBlock,e]))⟩⟩
    ·simp only[aY,bX,bD,List.length_drop,Array.length_toList];omega
    ·rw[o6,<-hlen];exact List.take_left
    ·intro g' fU;cases fU;refine⟨_,_,hblk,λx hx=>?_⟩;obtain⟨lU,O6,h1,h2⟩:=ha g rfl;rw[hg]at h1;cases h1;rcases bJ.1 hx with hx|hx
     ·rcases bJ.1 hx with hx|hx
      ·exact h2 x (aM hx)
      ·exact hs.str x hx
     ·exact h2 x (List.mem_of_mem_drop hx)
   ·have holds:∀j u,xs[j]?=some u->w.cell? ((⟨g,0,none⟩:Addr).add j)=some u:=fe.cells (g:=g) rfl;have hr:=run_append_grow (P:=prog) w 40 ty 44 i _ ht hi hz ⟨g,0,none⟩ n cap xs (by rw[eT];exact fe.1) holds ad m c news hl jG (by omega) (by omega) (growslice_fits (by omega) (by rw[Ao];omega));have Al:=grown cap (by omega) (Value.ownBlock (.slice (some ⟨g,0,none⟩) n cap));exact⟨_,_,hr,Al.1,Al.2.1,Al.2.2⟩
theorem Rk {rest:List Oper} {a:Act} (D6:o.guard=none) (s x:bZ)
  (ho:o.op=.call {callee:=.builtin .append,args:=#[s,x],argTypes:=#[40,40]})
  (es:a.eval s=v) (ex:a.eval x=.slice sa m c) (fe:w.ownsRow base 44 2 v n xs) (ha:qC w v) (hs:Src w sa m news) (hb:n+m<=1073741824) (mq:base<=w.heap.size)
  (h:∀v' w',w'.ownsRow base 44 2 v' (n+m) (xs++news)->qC w' v'->w.grownBy w' v.ownBlock->wpList prog ops Q rest (a.put o.dst v') w'):wpList prog ops Q (o::rest) a w:=
 wpList_plain D6 λ_ hK=>by
  obtain⟨v',w',hr,h2,h3,h4⟩:=q6c (c:=c) o.type fe ha hs hb mq;unfold Oper.wp ai;simp only[ho,resolve,invoke,builtin,Sem.run_bind,Sem.run_pure,Result.andThen_ok,bC,aS,ca,es,ex,hr];exact hK _ _ (h v' w' h2 h3 h4)
end
theorem Fu:∀a b:Bs,Op.bytesLess a b=ao a b
 |[],[]=>rfl
 |[],_::_=>rfl
 |_::_,[]=>rfl
 |a::x,b::y=>by simp[Op.bytesLess,ao,Fu x y]
theorem Below.drewN' (h:aV B a w) (n:Nat):aV B a (w.drewN n):=⟨h.os,h.tape,h.output,h.size,h.block⟩
section
variable {w:ae} {L:KV}
end
def EZ (w:ae) (base:Nat) (v:ag) (L:KV):Prop:=w.ownsRow base 44 2 v L.length (flat L)/\qC w v
section
variable {w:ae} {L:KV}
theorem wK (k:ByteArray):sv k.data.toList=.string k:=by unfold sv;simp
theorem qy {b:ByteArray} {l:Bs} (h:b.data.toList=l):sv l=.string b:=by rw[<-h];exact wK b
theorem qC.alloc {v:ag} (h:qC w v) (o:Obj):qC (w.alloc o) v:=λg hg=>by
 obtain⟨cur,ty,h1,h2⟩:=h g hg;exact⟨cur,ty,(aO w o (yc h1).1).trans h1,h2⟩
theorem Src.one (w:ae) (a b:ByteArray) (ty:co):Src (w.alloc (.cells #[.string a,.string b] ty)) (some ⟨w.heap.size,0,none⟩) 1 [.string a,.string b]:=by
 refine⟨rfl,λad e j u hj=>?_,λh=>(by cases h),λu hu=>by simp at hu;rcases hu with rfl|rfl<;>exact⟨_,rfl⟩⟩;cases e;rw[Addr.add_lit,ce];match j,hj with
 |0,hj=>simp at hj;subst hj;go_simp
 |1,hj=>simp at hj;subst hj;go_simp
theorem YR {v:ag} {base:Nat} (h:aV B a w) (hg:w.grownBy w1 v.ownBlock) (hr:w.ownsRow base 44 2 v n xs) (hb:B<=base) (hs:B<=w.heap.size):aV B a w1:=
 h.grown hg hs λj hj=>by have:=(hr.lt j hj).1;omega
theorem KP {v:ag} {L:KV} (h:w.ownsRow b 44 2 v n xs) (ha:qC w v) (hB:B<=b) (e:xs=flat L):EZ w B v L:=by
 have hn:n=L.length:=by have:=h.1;rw[e,Yr]at this;omega
 subst hn;subst e;exact⟨⟨h.1,h.2.imp id λ⟨g,cap,cur,h1,h2,h3⟩=>⟨g,cap,cur,h1,xlt hB h2,h3⟩⟩,ha⟩
end
section
variable {w:ae}
end
structure rO (w:ae) (cl n:Nat) (db mb:Nat) (mv:Option Addr) (L:KV):Prop where
 d:w.cell? ⟨cl,1+n*3+1,none⟩=some (.pointer (some ⟨db,0,none⟩))
 v:w.cell? ⟨cl,1+n*3+2,none⟩=some (.pointer mv)
 m:w.cell? ⟨db,0,none⟩=some (.map (some mb))
 l:jf w mb L
theorem rO.block {mv:Option Addr} {L:KV} (h:rO w cl n db mb mv L) (k:∀b,b=cl\/b=db\/b=mb->w'.heap[b]?=w.heap[b]?):rO w' cl n db mb mv L:=
 ⟨(xcb (k _ (.inl rfl))).trans h.d,(xcb (k _ (.inl rfl))).trans h.v,(xcb (k _ (.inr (.inl rfl)))).trans h.m,h.l.block (k _ (.inr (.inr rfl)))⟩
theorem rO.lt {mv:Option Addr} {L:KV} (h:rO w cl n db mb mv L):cl<w.heap.size/\db<w.heap.size/\mb<w.heap.size:=
 ⟨xbl w _ h.d,xbl w _ h.m,h.l.lt⟩
theorem rO.below {mv:Option Addr} {L:KV} (h:rO w cl n db mb mv L) (k:aV w.heap.size w w'):rO w' cl n db mb mv L:=
 h.block λb hb=>k.block b (by have:=h.lt;rcases hb with rfl|rfl|rfl<;>omega)
def TN (x:Int) (w:ae) (e:cx) (w':ae):Prop:=e=.returned (.int .i64 x)/\aV w.heap.size w w'
section
variable {w:ae} {cl db mb:Nat} {L:KV}
theorem X7 (k v:ByteArray) (g:Bool) (h:mr k.data.toList=false) (hs:k.size<=aJ):bi prog 22 #[.pointer (some ⟨cl,0,none⟩),.agg #[.string k,.string v,.bool g]] w (TN 2 w):=by
 go_enter func22,ntmps22;go_wp2_with (go_at_call 20;refine(Mr _ _ h hs).mono ?_;rintro e w1 ⟨rfl,hb⟩)
 go_ret;exact⟨rfl,((zi _ _).alloc (jm _) _).trans (hb.mono (by simp))⟩
structure ChW (cb cl n db mb:Nat) (mv:Option Addr) (L:KV) (k v:ByteArray) (g:Bool) (w:ae):Prop where
 c0:w.cell? ⟨cb,0,none⟩=some (.string k)
 c1:w.cell? ⟨cb,1,none⟩=some (.string v)
 c2:w.cell? ⟨cb,2,none⟩=some (.bool g)
 d:w.cell? ⟨cl,1+n*3+1,none⟩=some (.pointer (some ⟨db,0,none⟩))
 v:w.cell? ⟨cl,1+n*3+2,none⟩=some (.pointer mv)
 m:w.cell? ⟨db,0,none⟩=some (.map (some mb))
 l:jf w mb L
theorem ChW.of {mv:Option Addr} {k v:ByteArray} {g:Bool} (hp:rO w cl n db mb mv L) (hb:aV (w.alloc (.cells #[.string k,.string v,.bool g] 74)).heap.size (w.alloc (.cells #[.string k,.string v,.bool g] 74)) w1):
  ChW w.heap.size cl n db mb mv L k v g w1/\aV w.heap.size w w1:=by
 have mR:aV w.heap.size w w1:=((zi _ _).alloc (jm _) _).trans (hb.mono (by simp));obtain⟨pd,pv,pm,pl⟩:=hp.below mR;exact⟨⟨(hb.cell (p:=⟨w.heap.size,0,none⟩) (by simp)).trans (by go_simp),(hb.cell (p:=⟨w.heap.size,1,none⟩) (by simp)).trans (by go_simp),(hb.cell (p:=⟨w.heap.size,2,none⟩) (by simp)).trans (by go_simp),pd,pv,pm,pl⟩,mR⟩
theorem ChW.below {mv:Option Addr} {k v:ByteArray} {g:Bool} (h:ChW cb cl n db mb mv L k v g w) (hb:aV w.heap.size w w1):ChW cb cl n db mb mv L k v g w1:=
 ⟨(hb.cell (xbl w _ h.c0)).trans h.c0,(hb.cell (xbl w _ h.c1)).trans h.c1,(hb.cell (xbl w _ h.c2)).trans h.c2,(hb.cell (xbl w _ h.d)).trans h.d,(hb.cell (xbl w _ h.v)).trans h.v,(hb.cell (xbl w _ h.m)).trans h.m,h.l.block (hb.block _ h.l.lt)⟩
theorem ChW.but {mv:Option Addr} {k v:ByteArray} {g:Bool} {L':KV} (h:ChW cb cl n db mb mv L k v g w) (hb:But (· =mb) w w1) (hm:jf w1 mb L'):ChW cb cl n db mb mv L' k v g w1:=by
 have ne:∀{b o:Nat} {x:ag},w.cell? ⟨b,o,none⟩=some x->b≠mb:=λ{b o x} hx e=>by
  obtain⟨es,ck,hb,_⟩:=h.l;subst e;unfold aE at hx;rw[hb]at hx;cases hx
 have cell:∀{b o:Nat} {x:ag},w.cell? ⟨b,o,none⟩=some x->w1.cell? ⟨b,o,none⟩=some x:=λhx=>(xcb (hb.keep _ (xbl w _ hx) (ne hx))).trans hx;exact⟨cell h.c0,cell h.c1,cell h.c2,cell h.d,cell h.v,cell h.m,hm⟩
theorem ChW.drew {mv:Option Addr} {k v:ByteArray} {g:Bool} (h:ChW cb cl n db mb mv L k v g w):ChW cb cl n db mb mv L k v g w.drew:=h.below (w1:=w.drew) ⟨rfl,rfl,rfl,jm _,λ_ _=>rfl⟩
theorem Ie {w:ae} {db mb:Nat} {L:KV} (hd:w.cell? ⟨db,0,none⟩=some (.map (some mb))) (hm:jf w mb L):bi prog 37 #[.pointer (some ⟨db,0,none⟩)] w λe w'=>e=.returned (.int .i64 L.length)/\w=w':=
 (jgi hd hm).mono λ_ _ h=>⟨h.1,h.2.symm⟩
def ZW (w:ae) (mb:Nat) (L:KV) (c:Int) (e:cx) (w':ae):Prop:=e=.returned (.int .i64 c)/\jf w' mb L/\But (· =mb) w w'
theorem VN {mv:Option Addr} {W:ae} {k v:ByteArray} {g:Bool} {A B:Prop} (h:A/\B/\Hid (ChW W.heap.size cl n db mb mv L k v g w1/\aV W.heap.size W w1)) (hk:k.size<=aJ):
  bi prog 21 #[.pointer (some ⟨db,0,none⟩),.string k] w1 λe w'=>(e=.returned (.tuple #[sv ((jr L k.data.toList).getD []),.bool (jr L k.data.toList).isSome]))/\ChW W.heap.size cl n db mb mv L k v g w'/\aV W.heap.size W w':=
 (Kr h.2.2.out.1.m h.2.2.out.1.l k hk).mono λe w' ⟨h1,h2⟩=>⟨h1,h.2.2.out.1.below h2,h.2.2.out.2.trans (h2.mono h.2.2.out.2.size)⟩
def qG (L:KV) (k v:Bs) (g:Bool):Int:=if 12<v.length then 3 else if !g&&!(jr L k).isSome&&L.length==12 then 4 else if g&&!(jr L k).isSome then 6 else 0
def chL (L:KV) (k v:Bs) (g:Bool):KV:=if qG L k v g=0 then(if g then xR L k else Bt L k v)else L
theorem PV {L:KV} {k v:Bs} {g:Bool} (h:12<v.length):qG L k v g=3/\chL L k v g=L:=by
 have:qG L k v g=3:=by unfold qG;rw[if_pos h]
 exact⟨this,by unfold chL;rw[this];rfl⟩
theorem PU {L:KV} {k v:Bs} {g:Bool} (h:¬12<v.length):
  (g=false->(jr L k).isSome=false->L.length=12->qG L k v g=4/\chL L k v g=L)/\(g=false->((jr L k).isSome=true\/L.length≠12)->qG L k v g=0/\chL L k v g=Bt L k v)/\
  (g=true->(jr L k).isSome=false->qG L k v g=6/\chL L k v g=L)/\(g=true->(jr L k).isSome=true->qG L k v g=0/\chL L k v g=xR L k):=by
 unfold chL qG;rw[if_neg h];refine⟨λh1 h2 h3=>?_,λh1 h2=>?_,λh1 h2=>?_,λh1 h2=>?_⟩
 ·subst h1;simp[h2,h3]
 ·subst h1;rcases h2 with h2|h2<;>simp[h2]
 ·subst h1;simp[h2]
 ·subst h1;simp[h2]
theorem X6 (k v:ByteArray) (g:Bool) (n:Nat) (hn:n<4) (hk:mr k.data.toList=true) (qU:jw k.data.toList=n) (iK:k.size<=aJ) (hL:L.length<=12) (hp:rO w cl n db mb none L):
  bi prog 22 #[.pointer (some ⟨cl,0,none⟩),.agg #[.string k,.string v,.bool g]] w (ZW w mb (chL L k.data.toList v.data.toList g) (qG L k.data.toList v.data.toList g)):=by
 have Cc:((n:Int)<4):=by omega
 go_enter func22,ntmps22;go_wp2_with (go_at_call 20;refine(Fh _ _ hk).mono ?_;rintro e w1 ⟨rfl,hb⟩;rw[qU])
 obtain⟨iZ,mR⟩:=ChW.of hp hb;clear hb hp;have GR:=Hd mR;have xE:=Hd iZ;obtain⟨c0,c1,c2,pd,pv,pm,pl⟩:=id iZ;clear mR iZ pl;go_region_held3 (λw'=>w'.cell? ⟨cl,1+n*3+1,none⟩=some (.pointer (some ⟨db,0,none⟩))/\w'.cell? ⟨w.heap.size,0,none⟩=some (.string k)/\Hid (ChW w.heap.size cl n db mb none L k v g w'/\aV w.heap.size w w'))
  (first|exact⟨pd,c0,Hd ⟨xE.drew,GR.drew⟩⟩|exact⟨(iy.1).d,(iy.1).c0,iy⟩)
  (first|(go_at_call 21;refine(VN (by assumption) iK).mono ?_;rintro e w2 ⟨rfl,kP⟩;have iy:=Hd kP;clear kP))
 obtain⟨has,jP⟩:∃b,(jr L k.data.toList).isSome=b:=⟨_,rfl⟩
 rw[jP];have HF:=Hd jP;clear jP;generalize sv ((jr L k.data.toList).getD [])=gv;obtain⟨e0,e1,e2,ed,ev,em,el⟩:=iy.1;have EL:=Hd el;have oW:=Hd (But.of_below (B:=(· =mb)) iy.2);clear el;by_cases o5:12<v.size
 ·have HE:=Hd (PV (L:=L) (k:=k.data.toList) (g:=g) (v:=v.data.toList) (by simpa using o5));have g1:decide ((12:Int)<v.size)=true:=by simp;omega
  go_wp2;go_ret;exact⟨by rw[HE.1];rfl,by rw[HE.2];exact EL.o,oW.o⟩
 have HG:=Hd (PU (L:=L) (k:=k.data.toList) (g:=g) (v:=v.data.toList) (by simpa using o5));rw[HF.o]at HG;have g1:decide ((12:Int)<v.size)=false:=by simp;omega
 cases g
 ·cases has
  ·by_cases pz:L.length=12
   ·have HE:=Hd (HG.1 rfl rfl pz);go_wp2_with (go_at_call 37;refine(Ie em EL.o).mono ?_;rintro e w' ⟨rfl,rfl⟩)
    go_ret;exact⟨by rw[HE.1];rfl,by rw[HE.2];exact EL.o,oW.o⟩
   ·have HE:=Hd (HG.2.1 rfl (.inr pz));go_wp2_with (go_at_call 37;refine(Ie em EL.o).mono ?_;rintro e w' ⟨rfl,rfl⟩)
    refine aF 5 (by kernel_rfl) (by kernel_rfl) ?_;change wpStill _ _ w2.drew (λa'=>wpList _ _ _ _ a' w2.drew) _ _;simp only[az,aZ,aA,ba];repeat still_step
    refine bp ?_;go_wp2_with (go_at_call 38;refine(Fj (w:=w2.drew) em (EL.block rfl) (by omega) k v iK).mono ?_;rintro e w3 ⟨rfl,nA,gM⟩;have kU:=Hd (iy.1.drew.but gM nA);have wo:=Hd (oW.drew.trans gM);obtain⟨f0,f1,f2,fd,fv,fm,fl⟩:=kU.o;clear fl nA gM)
    go_ret;exact⟨by rw[HE.1];rfl,by rw[HE.2];exact kU.l,wo.o⟩
  ·have HE:=Hd (HG.2.1 rfl (.inl rfl));go_wp2;refine aF 5 (by kernel_rfl) (by kernel_rfl) ?_;change wpStill _ _ w2.drew (λa'=>wpList _ _ _ _ a' w2.drew) _ _;simp only[az,aZ,aA,ba];repeat still_step
   refine bp ?_;go_wp2_with (go_at_call 38;refine(Fj (w:=w2.drew) em (EL.block rfl) (by omega) k v iK).mono ?_;rintro e w3 ⟨rfl,nA,gM⟩;have kU:=Hd (iy.1.drew.but gM nA);have wo:=Hd (oW.drew.trans gM);obtain⟨f0,f1,f2,fd,fv,fm,fl⟩:=kU.o;clear fl nA gM)
   go_ret;exact⟨by rw[HE.1];rfl,by rw[HE.2];exact kU.l,wo.o⟩
 ·cases has
  ·have HE:=Hd (HG.2.2.1 rfl rfl);go_wp2;go_ret;exact⟨by rw[HE.1];rfl,by rw[HE.2];exact EL.o,oW.o⟩
  ·have HE:=Hd (HG.2.2.2 rfl rfl);go_wp2;refine aF 5 (by kernel_rfl) (by kernel_rfl) ?_;change wpStill _ _ w2.drew (λa'=>wpList _ _ _ _ a' w2.drew) _ _;simp only[az,aZ,aA,ba];repeat still_step
   refine bp ?_;go_wp2_with (go_at_call 38;refine(KM (w:=w2.drew) em (EL.block rfl) k v iK).mono ?_;rintro e w3 ⟨rfl,nA,gM⟩;have kU:=Hd (iy.1.drew.but gM nA);have wo:=Hd (oW.drew.trans gM);obtain⟨f0,f1,f2,fd,fv,fm,fl⟩:=kU.o;clear fl nA gM)
   go_ret;exact⟨by rw[HE.1];rfl,by rw[HE.2];exact kU.l,wo.o⟩
end
structure Clu (w:ae) (cl:Nat) (db mb:Nat->Nat) (L:Nat->KV):Prop where
 p:∀i,i<4->∃mv,rO w cl i (db i) (mb i) mv (L i)
 ne:∀i j,i<4->j<4->mb i=mb j->i=j
 len:∀i,i<4->(L i).length<=12
def lG (L:Nat->KV) (n:Nat) (x:KV):Nat->KV:=λi=>if i=n then x else L i
theorem Rq (k:Bs):jw k<4:=by
 unfold jw shd;split
 ·decide
 ·split
  ·decide
  ·split<;>decide
section
variable {w w':ae} {cl:Nat} {db mb:Nat->Nat} {L:Nat->KV}
def Eo (L:Nat->KV) (k:Bs):Bs:=if mr k then(jr (L (jw k)) k).getD []else[]
def Ep (L:Nat->KV) (k:Bs):Int:=if mr k then(if(jr (L (jw k)) k).isSome then 0 else 6)else 2
def Wj (w:ae) (v:Bs) (c:Int) (e:cx) (w':ae):Prop:=e=.returned (.tuple #[sv v,.int .i64 c])/\aV w.heap.size w w'
theorem q3v (h:Clu w cl db mb L) (k:ByteArray) (hs:k.size<=aJ):
  bi prog 8 #[.pointer (some ⟨cl,0,none⟩),.string k] w (Wj w (Eo L k.data.toList) (Ep L k.data.toList)):=by
 have HH:=Hd h;clear h;cases hk:mr k.data.toList
 ·have HK:=Hd hk;clear hk;go_enter func8,ntmps8;go_wp2_with (go_at_call 20;refine(Mr _ _ HK.o hs).mono ?_;rintro e w1 ⟨rfl,hb⟩)
  go_ret2;unfold Eo Ep;rw[HK.o];exact⟨rfl,hb⟩
 ·have HK:=Hd hk;clear hk;have hn:=Rq k.data.toList;obtain⟨mv,hp⟩:=HH.p _ hn;have HG:Hid (Eo L k.data.toList=(jr (L (jw k.data.toList)) k.data.toList).getD []/\Ep L k.data.toList=if(jr (L (jw k.data.toList)) k.data.toList).isSome then 0 else 6):=by
   unfold Eo Ep;rw[HK.o];exact⟨rfl,rfl⟩
  generalize wZ:jw k.data.toList=n at*;have HN:=Hd wZ;have HP:=Hd hp;obtain⟨x,hx⟩:∃x,jr (L n) k.data.toList=x:=⟨_,rfl⟩
  rw[hx]at HG;have HX:=Hd hx;clear hp wZ hx;have Cc:((n:Int)<4):=by omega
  cases x;all_goals
   go_enter func8,ntmps8;go_wp2_with (first
    |(go_at_call 20;refine(Fh _ _ HK.o).mono ?_;rintro e w1 ⟨rfl,hb⟩;rw[HN.o];have U6:=Hd (HP.below hb);have Cw:=Hd hb;obtain⟨pd,pv,pm,pl⟩:=U6.o;clear hb pl)
    |(go_at_call 21;refine(Kr pm U6.l k hs).mono ?_;rintro e w2 ⟨rfl,fJ⟩;rw[HX.o];have oW:=Hd (Cw.trans (fJ.mono Cw.size));clear fJ))
   go_ret2;exact⟨by rw[HG.1,HG.2];rfl,oW.o⟩
end
def qg {α:Type} (L:Nat->α) (n:Nat) (x:α):Nat->α:=λi=>if i=n then x else L i
theorem qp {α:Type} (L:Nat->α) (n:Nat) (x:α):qg L n x n=x:=by unfold qg;rw[if_pos rfl]
theorem qj {α:Type} (L:Nat->α) (x:α) (h:i≠n):qg L n x i=L i:=by unfold qg;rw[if_neg h]
section
variable {w w':ae} {ml sb:Nat} {lv:Nat->ag} {mp:Nat->Option Addr} {L:Nat->KV}
end
theorem But.setCell {B:Nat->Prop} (h:But B w w') (hb:B b) (o:Nat) (v:ag):But B w (w'.setCell ⟨b,o,none⟩ v):=
 ⟨by simpa using h.size,λk hk hn=>(xho w' _ k v λe=>hn (by subst e;exact hb)).trans (h.keep k hk hn),h.os,h.output⟩
section
variable {w:ae} {ml sb:Nat} {lv:Nat->ag} {mp:Nat->Option Addr} {L:Nat->KV}
theorem WC {v:ag} {l:KV} (h:EZ w b v l):∃sa cp,v=.slice sa l.length cp:=by
 rcases h.1.2 with⟨rfl,hz⟩|⟨g,cap,cur,rfl,_⟩
 ·exact⟨none,0,by rw[hz]⟩
 ·exact⟨_,_,rfl⟩
end
section
variable {w:ae} {ml sb:Nat} {lv:Nat->ag} {mp:Nat->Option Addr} {L:Nat->KV}
end
end
end Go.Proofs.Ytkpekiajdlolnaa
