/- PROVED: part 3 of the claim's ground. Conditions: those that each theorem names. -/
import Derived.Test.YtkpekiajdlolnabGreatM02
import Derived.Conc.DeferLaws
import Derived.Conc.CompanyDraw
import Derived.Conc.Own3
import Derived.Conc.WgWords
import Derived.WalkKit
import Derived.Conc.LeavingOf
import Derived.Test.YtkpekiajdlolnabGreatChecked
import Derived.LoopTactic
import Derived.Lib.Hide
import Derived.Outline
import Derived.Maps.Own
import Derived.StringKeys
import Derived.Maps.OwnOps
import Derived.Maps.OwnSet
import Derived.BigQuiet
import Derived.Deep.QuietTactic
import Derived.StillTailTactics
import Derived.Laws.AppendOwn
import Derived.OwnWalk
import Derived.Laws.Cover1
set_option linter.unusedVariables false
set_option linter.unusedSimpArgs false
set_option maxRecDepth 100000
set_option maxHeartbeats 16000000
variable{B c cb cl i j kb n tb:Nat} {F O SB:Go.Proofs.YtkpekiajdlolnabGreat.Sim.Blocks} {K:Go.Goroutine->Go.World->Prop} {Q:Go.Exit->Go.Act->Go.World->Prop} {R:Go.Value->Go.World->Prop} {Stop:Go.Proofs.YtkpekiajdlolnabGreat.Sim.Blocks->Go.Proofs.YtkpekiajdlolnabGreat.Sim.Blocks->Go.Goroutine->Go.World->Prop} {a w w' w1:Go.World} {ad:Go.Addr} {b fr gr:Go.Frame} {cs:List Go.Frame} {e:Go.Operand->Go.Value} {f:Go.FuncId} {g:Go.Goroutine} {gs:Array Go.Goroutine} {ja:Nat->Go.Proofs.YtkpekiajdlolnabGreat.Sim.Blocks->Go.Value->Go.World->Prop} {k k':List Go.Item} {l l':List (Nat×Go.Value)} {o:Go.Oper} {ops:Array Go.Oper} {q:Nat->Nat} {s:ByteArray} {sa:Option Go.Addr} {sl:Option (Nat×Nat)} {t:Go.Trace} {xs:List Go.Value} {ρ:Go.Proofs.YtkpekiajdlolnabGreat.Sim.Rel}
open Go.Proofs.Tryz
open Go.Region renaming wanted→aa,ready→aw
open Go renaming undef→ac,World→ae,Value→ag,execOp→ai,Frame→am,bytesBefore→ao,Goroutine→aq,yielded→az,FuncId→aC,Program→aM,heap_alloc_old→aQ,stepG→aV,maxLen→bh,run_underlying→bi,Trace→bo,MapEntry→bu,mem_ready→bE,getD_set_ne→bR,Calls→bU,wp_region_still_tail→bY,exitTo→cn,Operand→cw,TypeId→cH,Deferred→cZ,callFunc→de,Ending→dC
open Go.Act renaming mk→ah
open Array renaming getElem?_push→aj,replicate→bM,toList_append→cf
open Go.Conc renaming stepG_region_end→au,stepG_region→aA,stepG_seq→aD,aside_setCell→aW,stepG_value→bd,Leavers→bp,mem_listed→bq,goes_go→bz,stepG_block→bB,seen_none→bF,stepG_enter→bT,stepG_inBlock→cj,stepG_skip→dh
open Go.Frame renaming enter→av,finish→dB
open Go.Region.linearise renaming go→ax
open List renaming eq_nil_of_length_eq_zero→ay,mem_cons→aE,take_succ_cons→aH,drop_succ_cons→aI,mem_of_mem_take→aO,length_take→aU,map_cons→aX,getElem?_take_of_lt→aY,pairwise_cons→aZ,size_toArray→bj,getElem?_eq_some_iff→bw,all_eq_true→bD,map_toArray→bH,length_drop→bI,take_of_length_le→bL,find?_cons→bN,mem_filter→bO,mem_append→bP,length→bQ,length_append→cr,map_nil→cx,append_assoc→cG,length_cons→cM,filter_cons→cP,range→da,mem_range→dc,take_zero→di,drop_zero→dj
open Go.Builtin renaming append_→aF,firstCells→aK,zeroCells→aN,lenOf→bk,len_→bK,min_→dy,min2→dz
open Go.World renaming cell?→aG,frozen?→cg
open Option renaming map_eq_some_iff→aJ,getD→cW,map_some→cX
open Nat renaming reduceAdd→aL,mul_le_mul_right→bX,zero_add→cz
open Go.Lit renaming string→aP
open Bool renaming and_eq_true→aR,false_eq_true→cq,or_eq_true→cY
open Ne renaming symm→aS
open ByteArray renaming getElem_eq_getElem_data→bg
open UInt8 renaming lt_or_eq_of_le→bm
open Go.RowKit renaming Below→bC
namespace Go.Proofs.YtkpekiajdlolnabGreat
namespace Ph
section
open Go Go.Conc Go.ConcN Sim
section
variable {X:Cx} {Fb:aC->Bool} {SB:Blocks} {Q:am->List am->ae->Prop}
inductive Way (k:List Item):am->am->Prop
 |land {f:am} {k':List Item}:f.mode=.run->(k'=k\/∃id,cn id k=some k')->Way k (wt f (st k')) (wt f k')
 |ret {f:am} {t t':List Item}:f.mode=.returning->Way k (wt f t) (wt f t')
theorem YQ (h:k'=k\/∃id,cn id k=some k'):(st k').length<=(st k).length:=by
 rcases h with rfl|⟨id,h⟩
 ·exact ji _
 ·have:∀k,cn id k=some k'->(st k').length<=(sf k).length:=by
   intro k;induction k with
   |nil=>intro h;cases h
   |cons a k ih=>
    cases a with
    |inBlock xA=>
     intro h;have e:cn id (.inBlock xA::k)=if xA==id then some k else cn id k:=rfl
     rw[e]at h;rw[sf];split at h
     ·cases h;simp
     ·have:=ih h;rw[uD k];simp;omega
    |_=>
     intro h;rw[sf]
     ·exact ih h
     ·intro _ e;cases e
  have:=this k h;rw[uD k];simp;omega
theorem yJ.out (hQ:yJ k Q) {up gup:List am} (zH:Sw k fr up gr gup) (hq:Q fr (up++[c0]) w):up=[]/\gup=[]/\Way k fr gr:=by
 obtain⟨hc,ho⟩:=hQ _ _ _ hq;cases zH with
 |ret hm=>exact⟨rfl,rfl,.ret hm⟩
 | @above up f t t' h=>
  have:=congrArg bQ hc;simp at this
 | @bot f t t' h=>
  rcases ho with ho|⟨hm,k',ho,pG⟩
  ·exact⟨rfl,rfl,.ret ho⟩
  ·exfalso;have ho:t=st k':=ho;cases h with
   |code a u=>
    have h1:=congrArg bQ ho;have h2:=YQ pG;simp at h1;omega
   |op _ _ _=>
    rw[uD k']at ho;injection ho with h _;cases h
theorem LF (hf:FR X Fb true ρ fr fr):FR X Fb true ρ (wt fr []) (wt fr []):=⟨hf.fn,hf.same,hf.tmps,.nil,hf.defers,hf.mode,hf.run,hf.kind,hf.kind',hf.round⟩
theorem WR.self {Fb:aC->Bool} {sp:aC->Bool} (S:X.Set Fb true sp) {wc:ae} (hw:WN X ρ w wc) (hs:Same w wc) (d:Nat):WR X ρ (wc.at d) (wc.at d):=by
 obtain⟨τ0,_,k0⟩:=hw;refine⟨k0.fn,k0.inj,λ{a b} gG=>?_,λ_ _=>rfl,λa ha=>absurd ha (S.wrs rfl a)⟩;obtain⟨o,o',k1,k2,k3⟩:=k0.heap gG;exact⟨o,o',by show wc.heap[a]?=_;rw[hs.heap];exact k1,k2,k3⟩
def Rt (X:Cx) (Fb:aC->Bool) (SB:Blocks) (k:List Item) (Q:am->List am->ae->Prop) (ρ:Rel) (gs:Array aq) (base:List am) (wc:ae) (sl:Option (Nat×Nat)) (t:bo):Prop:=
 ∃(N:Nat) (eX:Array aq) (iJ BF:am) (w2 nI:ae) (sl':Option (Nat×Nat)) (t':bo) (q':Nat->Nat) (ρ2:Rel),
    runNT X.P N (crowd gs wc sl) t=(.next (crowd eX nI sl'),t')/\Q iJ [c0] w2/\Way k iJ BF/\eX.size=gs.size/\eX[0]?=some (G BF base)/\Same w2 nI/\FR X Fb true ρ2 (wt iJ []) (wt iJ [])/\WN X ρ2 w2 nI/\ρ.le ρ2/\NB w2/\
     bp X.P t' eX q'/\jD SB nI eX.size t'/\tK SB (rng ρ2) (own X ρ2) nI
theorem qqw (pJ:X.P'=X.P) (S:X.Set Fb true (λ_=>false)) (hQ:yJ k Q):∀{fr:am} {cs:List am} {w:ae},mQ X.P Q fr cs w->
  ∀{ρ:Rel} {gr:am} {up gup base:List am} {gs:Array aq} {wc:ae} {sl:Option (Nat×Nat)} {t:bo} {q:Nat->Nat},cs=up++[c0]->Sw k fr up gr gup->FR X Fb true ρ fr fr->FsR X Fb true ρ up up->WN X ρ w wc->Same w wc->NB w->Bot (fr::up)->
   gs[0]?=some (G gr (gup++base))->bp X.P t gs q->jD SB wc gs.size t->tK SB (rng ρ) (own X ρ) wc->
   Rt X Fb SB k Q ρ gs base wc sl t:=by
 intro fr cs w h;induction h with
 | @done fr cs w hq=>
  rintro ρ gr up gup base gs wc sl t q rfl zH hf hu hw hs hn hB h0 hL hP hF;obtain⟨rfl,rfl,ho⟩:=hQ.out zH hq;exact⟨0,gs,fr,gr,w,wc,sl,t,q,ρ,rfl,hq,ho,rfl,h0,hs,LF hf,hw,ρ.le_refl,hn,hL,hP,hF⟩
 | @step fr cs w nf nc nw ne dn hm ih=>
  rintro ρ gr up gup base gs wc sl t q rfl zH hf hu hw hs hn hB h0 hL hP hF;obtain⟨hgo,key⟩:=qte pJ S hQ.mode dn hm hf hu hw hs hn hB;have Ii:∀d,∃j5 up1 sM pX w1 ρ1 es,aV X.P true (G gr (gup++base)) (wc.at d)=.go (G sM (pX++base)) (shf wc.tape (w.drawn,d) w1) es/\Aft k j5 up1 sM pX/\
    (∃τ,(Agree w τ)/\j5=nf τ/\up1++[c0]=nc τ/\w1=nw τ)/\FR X Fb true ρ1 j5 j5/\FsR X Fb true ρ1 up1 up1/\WR X ρ1 w1 (shf wc.tape (w.drawn,d) w1)/\ρ.le ρ1/\NB w1/\Bot (j5::up1)/\
    tJ (rng ρ) (own X ρ) (wc.at d) (rng ρ1) (own X ρ1) (shf wc.tape (w.drawn,d) w1) es:=λd=>by
   obtain⟨j5,up1,w1,ρ1,es,e,hτ,h1,h2,h3,hle,h7,h8,ok⟩:=key d;have hwz:=WR.self S hw hs d;rcases q95 S (base:=base) zH hf hwz true hB hgo with⟨iJ,xV,BF,Ql,w2,pM,e1,e2,ha⟩|fF
   ·rw[e]at e1;injection e1 with a1 a2 a3;injection a1 with a1 a4;obtain rfl:=a1;obtain rfl:=List.append_cancel_right a4;obtain rfl:=a2;obtain rfl:=a3;exact⟨j5,up1,BF,Ql,w1,ρ1,es,e2,ha,hτ,h1,h2,h3,hle,h7,h8,ok⟩
   ·exact absurd e (fF _ _ _)
  have kG:0<gs.size:=(yx h0).1;obtain⟨N,lK,a1,d,Le,es,jC,t1,q1,hr,Vn,hz,o8,uf,tZ,_⟩:=CV (P:=X.P) (SB:=SB) (sl:=sl) h0 rfl hL hP λd=>by
   obtain⟨j5,up1,sM,pX,w1,ρ1,es,e,_,_,_,_,_,_,_,_,ok⟩:=Ii d;have Du:tK SB (rng ρ) (own X ρ) (wc.at d):=⟨hF.apart,hF.low,hF.own,hF.foot⟩
   have kS:=Du.step ok;exact⟨_,_,es,e,ok.size,λx hx=>⟨I6 (ok.ev x hx) kS.apart kS.foot,λy hy=>(L9 (ok.ev x hx) hy).1⟩⟩
  obtain⟨j5,up1,sM,pX,w1,ρ1,iD,e,ha,⟨τ,WC,rfl,EU,rfl⟩,h1,h2,h3,hle,h7,h8,ok⟩:=Ii d;rw[e]at Vn;have jG:G sM (pX++base)=a1/\shf wc.tape (w.drawn,d) (nw τ)=Le/\iD=es:=by
   injection Vn with a b c;exact⟨a,b,c⟩
  obtain⟨rfl,rfl,rfl⟩:=jG;have Du:tK SB (rng ρ) (own X ρ) (wc.at d):=⟨hF.apart,hF.low,hF.own,hF.foot⟩
  have xK:=Du.step ok;have lN:Same (nw τ) (shf wc.tape (w.drawn,d) (nw τ)):=⟨rfl,rfl,rfl⟩
  have fin:∀{sM:am} {pX:List am},lK[0]?=some (G sM (pX++base))->Sw k (nf τ) up1 sM pX->Rt X Fb SB k Q ρ gs base wc sl t:=λ{sM pX} o8 jN=>by
   obtain⟨N',eX,iJ,BF,w2,nI,sl',t',q',ρ2,gu,hq,ho,zG,sK,nK,g1,g3,g4,g5,sJ,pK,kS⟩:=ih τ WC (sl:=jC) EU.symm jN h1 h2 (WN.of h3) lN h7 h8 o8 uf tZ xK;exact⟨N+N',eX,iJ,BF,w2,nI,sl',t',q',ρ2,runNT_trans _ hr gu,hq,ho,zG.trans hz,sK,nK,g1,g3,Rel.le_trans hle g4,g5,sJ,pK,kS⟩
  have zP:=hm τ WC;rw[<-EU]at zP;generalize nf τ=j5 at*;cases ha with
  |sw jN=>exact fin o8 jN
  |panic hp=>rcases h1.run with h|h<;>rw[hp]at h<;>cases h
  |ld hl=>
   cases hl with
   | @land f k' pG=>
    rcases h1.run with zQ|zQ
    ·have hq:=SY hQ zP zQ;exact⟨N,lK,wt f (st k'),wt f k',nw τ,_,jC,t1,q1,ρ1,hr,(by have:=(hQ _ _ _ hq).1;rw[this]at hq;exact hq),.land zQ pG,hz,o8,lN,LF h1,WN.of h3,hle,h7,uf,tZ,xK⟩
    ·exact fin (pX:=[]) o8 (.ret (f:=f) zQ)
   | @late f o=>
    rcases h1.run with zQ|zQ
    ·have hq:=YI hQ zP zQ;exact⟨N,lK,wt f (st k),wt f k,nw τ,_,jC,t1,q1,ρ1,hr,(by have:=(hQ _ _ _ hq).1;rw[this]at hq;exact hq),.land zQ (.inl rfl),hz,o8,lN,(show FR X Fb true ρ1 (wt f []) (wt f [])from LF (fr:=wt f (.inRegion #[o] []::st k)) h1),WN.of h3,hle,h7,uf,tZ,xK⟩
    ·exact fin (pX:=[]) o8 (.ret (f:=f) zQ)
end
structure Co (X:Cx) (Fb bl:aC->Bool) (SB:Blocks) (ρ:Rel) (gs:Array aq) (fr:am) (cs:List am) (w:ae) (t:bo) (q:Nat->Nat):Prop where
 g0:gs[0]?=some (G fr cs)
 leavers:bp X.P t gs q
 past:jD SB w gs.size t
 foot:tK SB (rng ρ) (own X ρ) w
 fr:bl fr.fn=false->FR X Fb true ρ (wt fr []) (wt fr [])
 cs:∀c∈cs,bl c.fn=false->FR X Fb true ρ (wt c []) (wt c [])
 wr:WR X ρ w w
 nb:NB w
def Comes (X:Cx) (Fb bl:aC->Bool) (SB:Blocks) (ρ:Rel) (gs:Array aq) (w:ae) (sl:Option (Nat×Nat)) (t:bo) (cs:List am) (Z:am->ae->Prop):Prop:=
 ∃(eX:Array aq) (eD:am) (w':ae) (sl':Option (Nat×Nat)) (t':bo) (q':Nat->Nat) (ρ':Rel),Runs X.P gs w sl t eX w' sl' t'/\eX.size=gs.size/\ρ.le ρ'/\Z eD w'/\Co X Fb bl SB ρ' eX eD cs w' t' q'
section
variable {X:Cx} {Fb bl:aC->Bool} {SB:Blocks}
theorem LY {f:am} {t:List Item} (h:FR X Fb true ρ (wt f []) (wt f [])) (ht:IsR X Fb true ρ t t):FR X Fb true ρ (wt f t) (wt f t):=
 ⟨h.fn,h.same,h.tmps,ht,h.defers,h.mode,h.run,h.kind,h.kind',h.round⟩
theorem Zm:yJ k (Tgt b (st k) Q):=by
 rintro fr cs w ⟨hc,e,a,_,hl⟩;refine⟨hc,?_⟩;cases e with
 |normal=>obtain rfl:=hl;exact .inr ⟨rfl,k,rfl,.inl rfl⟩
 |exit id=>
  obtain⟨k',h1,rfl⟩:=hl;rw[Jz]at h1;obtain⟨k1,h2,rfl⟩:=aJ.1 h1;exact .inr ⟨rfl,k1,rfl,.inr ⟨id,h2⟩⟩
 |ret=>obtain⟨todo,rfl⟩:=hl;exact .inl rfl
 |_=>exact hl.elim
theorem SF (h:k'=k\/∃id,cn id k=some k'):k' <:+ k:=by
 rcases h with rfl|⟨id,h⟩
 ·exact List.suffix_refl _
 ·exact Uo h
theorem Yf {e:Exit} {a:Act} (h:Way k fr gr) (hl:AP b (st k) e a fr):AP b k e a gr:=by
 cases h with
 | @land f k' hm hk=>
  have key:∀k1,(k1=k\/∃id,cn id k=some k1)->wt f (st k')=b.at a (st k1)->wt f k'=b.at a k1:=λk1 h1 e=>by
   have e1:st k'=st k1:=congrArg Frame.todo e;have e2:=jfj (SF hk) (SF h1) e1;subst e2;exact congrArg (wt · k') e
  cases e with
  |normal=>exact key k (.inl rfl) hl
  |exit id=>
   obtain⟨k2,h1,h2⟩:=hl;rw[Jz]at h1;obtain⟨k1,h3,rfl⟩:=aJ.1 h1;exact⟨k1,h3,key k1 (.inr ⟨id,h3⟩) h2⟩
  |ret=>
   obtain⟨todo,hl⟩:=hl;have:f.mode=.returning:=congrArg Frame.mode hl;rw[hm]at this;cases this
  |_=>exact hl.elim
 | @ret f t t' hm=>
  cases e with
  |normal=>
   have:f.mode=.run:=congrArg Frame.mode hl;rw[hm]at this;cases this
  |exit id=>
   obtain⟨k2,h1,h2⟩:=hl;have:f.mode=.run:=congrArg Frame.mode h2;rw[hm]at this;cases this
  |ret=>
   obtain⟨todo,hl⟩:=hl;exact⟨t',congrArg (wt · t') hl⟩
  |_=>exact hl.elim
theorem Co.carry (pJ:X.P'=X.P) (S:X.Set Fb true (λ_=>false))
  (h:Co X Fb bl SB ρ gs gr cs w t q) (zH:Sw k fr [] gr []) (hf:FR X Fb true ρ fr fr) (oU:fr.roundOf=none) (rD:∀e a w wc,Same w wc->Q e a w->Q e a wc)
  (hm:mQ X.P (Tgt b (st k) Q) fr [c0] w):
  Comes X Fb bl SB ρ gs w sl t cs (λeD w'=>∃e a',Q e a' w'/\AP b k e a' eD):=by
 have hB:Bot [fr]:=by
  intro f hf;simp at hf;subst hf;exact oU
 obtain⟨N,eX,iJ,BF,w2,nI,sl',t',q',ρ2,hr,⟨_,e,a',hq,hl⟩,ho,hz,sK,hs,g1,g3,g4,g5,sJ,pK,kS⟩:=qqw pJ S Zm hm (up:=[]) (gup:=[]) (base:=cs) rfl zH hf .nil (WN.of h.wr) (Same.refl w) h.nb hB h.g0 h.leavers h.past h.foot;refine⟨eX,BF,nI,sl',t',q',ρ2,⟨N,hr⟩,hz,g4,⟨e,a',rD _ _ _ _ hs hq,Yf ho hl⟩,⟨sK,sJ,pK,kS,?_,λc hc hb=>(h.cs c hc hb).mono g4,WR.self S g3 hs nI.drawn,?_⟩⟩
 ·intro _;cases ho<;>exact g1
 ·exact g5
theorem Co.code (pJ:X.P'=X.P) (S:X.Set Fb true (λ_=>false)) {ρ:Rel} {gs:Array aq} {b:am} {a:Act} {c:Code} {k:List Item} {cs:List am} {w:ae} {sl:Option (Nat×Nat)} {t:bo} {q:Nat->Nat} {Q:Exit->Act->ae->Prop}
  (h:Co X Fb bl SB ρ gs (b.at a (.code c::k)) cs w t q) (jB:bl b.fn=false) (hc:codeOk X.P X.P Fb true c=true) (qZ:Plain k Q) (rD:∀e a w wc,Same w wc->Q e a w->Q e a wc)
  (hp:∀τ,Agree w τ->c.wp X.P Q a (re w τ)):
  Comes X Fb bl SB ρ gs w sl t cs (λeD w'=>∃e a',Q e a' w'/\AP b k e a' eD):=by
 have hf:FR X Fb true ρ (b.at a (.code c::st k)) (b.at a (.code c::st k)):=LY (f:=b.at a []) (h.fr jB) (.cons (.code (by rw[pJ];exact hc)) (IsR.st X Fb true ρ k));have hB:Bot [b.at a (.code c::st k)]:=by
  intro f hf;simp at hf;subst hf;rfl
 have hinv:Inv X Fb true (b.at a (.code c::st k)) [c0] w:=⟨ρ,_,[],[],w,rfl,hf,.nil,h.wr,h.nb,hB⟩
 have DN:Plain (st k) Q:=λe a w hq=>by
  have:=qZ e a w hq;cases e with
  |exit id=>obtain⟨k',e⟩:=this;exact⟨st k',by rw[Jz,e];rfl⟩
  |_=>exact this
 have hm:=Ni S hinv DN rD (b:=b) (k:=st k) (λτ ha=>hp τ ha b (st k) [c0]);exact h.carry pJ S (fr:=b.at a (.code c::st k)) (.bot (f:=b.at a []) (.code (.code c) [])) hf rfl rD hm
theorem YH {P:aM} {Q:am->List am->ae->Prop} {j5:am} (h:mQ P Q fr cs w) (hq:¬Q fr cs w) (hs:aV P true (G fr cs) w=.go (G j5 cs) w #[]):mQ P Q j5 cs w:=by
 cases h with
 |done h=>exact absurd h hq
 |step nf nc nw ne h1 h2=>
  have e:aV P true (G fr cs) w=.go (G (nf w.tape) (nc w.tape)) (nw w.tape) (ne w.tape):=h1 w.tape (λ_ _ _=>rfl);rw[hs]at e;injection e with e1 e2 _;injection e1 with e1 e3;have:=h2 w.tape (λ_ _ _=>rfl);rw[<-e1,<-e2,<-e3]at this;exact this
theorem Co.op (pJ:X.P'=X.P) (S:X.Set Fb true (λ_=>false)) {ρ:Rel} {gs:Array aq} {b:am} {a:Act} {ops:Array Oper} {i:Nat} {td:List Nat} {o:Oper} {k:List Item} {cs:List am} {w:ae} {sl:Option (Nat×Nat)} {t:bo} {q:Nat->Nat} {Q:Act->ae->Prop}
  (h:Co X Fb bl SB ρ gs (b.at a (.inRegion ops (i::td)::k)) cs w t q) (jB:bl b.fn=false) (ho:ops[i]?=some o) (fI:nk X.P X.P Fb true (Sim.bare o)=true) (dU:aa o (az ops a.tmps)=true) (rD:∀a w wc,Same w wc->Q a w->Q a wc) {id:Nat}
  (hp:∀τ,Agree w τ->(Code.region id #[Sim.bare o] false).wp X.P (λe a' w'=>e=.normal/\Q a' w') a (re w τ)):
  Comes X Fb bl SB ρ gs w sl t cs (λeD w'=>∃a',Q a' w'/\eD=b.at a' (.inRegion ops td::k)):=by
 let K:List Item:=.inRegion ops td::k
 have PG:nk X.P X.P' Fb true (Sim.bare o)=true:=by rw[pJ];exact fI
 have fH:(#[Sim.bare o]:Array Oper).toList.all (nk X.P X.P' Fb true)=true:=by simp[PG]
 have hf0:FR X Fb true ρ (b.at a (.code (.region id #[Sim.bare o] false)::st K)) (b.at a (.code (.region id #[Sim.bare o] false)::st K)):=LY (f:=b.at a []) (h.fr jB) (.cons (.code fH) (IsR.st X Fb true ρ K));have fM:FR X Fb true ρ (b.at a (.inRegion #[Sim.bare o] [0]::st K)) (b.at a (.inRegion #[Sim.bare o] [0]::st K)):=LY (f:=b.at a []) (h.fr jB) (.cons (.inRegion [0] fH) (IsR.st X Fb true ρ K));have hB:Bot [b.at a (.code (.region id #[Sim.bare o] false)::st K)]:=by
  intro f hf;simp at hf;subst hf;rfl
 let Q':Exit->Act->ae->Prop:=λe a' w'=>e=.normal/\Q a' w'
 have WM:∀e a w wc,Same w wc->Q' e a w->Q' e a wc:=λe a w wc hs h=>⟨h.1,rD _ _ _ hs h.2⟩
 have DN:Plain (st K) Q':=by rintro e a w ⟨rfl,_⟩;trivial
 have hinv:Inv X Fb true (b.at a (.code (.region id #[Sim.bare o] false)::st K)) [c0] w:=⟨ρ,_,[],[],w,rfl,hf0,.nil,h.wr,h.nb,hB⟩
 have hm:=Ni S hinv DN WM (b:=b) (k:=st K) (λτ ha=>hp τ ha b (st K) [c0]);have EW:mQ X.P (Tgt b (st K) Q') (b.at a (.inRegion #[Sim.bare o] [0]::st K)) [c0] w:=by
  refine YH hm ?_ rfl;rintro⟨_,e,a',⟨rfl,_⟩,hl⟩;have:=congrArg Frame.todo (show b.at a (.code (.region id #[Sim.bare o] false)::st K)=b.at a' (st K)from hl);have h1:=congrArg bQ this;simp[Frame.at]at h1
 obtain⟨eX,eD,w',sl',t',q',ρ',h1,h2,h3,⟨e,a',⟨rfl,hq⟩,hl⟩,h4⟩:=h.carry pJ S (k:=K) (sl:=sl) (fr:=b.at a (.inRegion #[Sim.bare o] [0]::st K)) (.bot (f:=b.at a []) (.op rfl ho dU)) fM rfl WM EW;exact⟨eX,eD,w',sl',t',q',ρ',h1,h2,h3,⟨a',hq,hl⟩,h4⟩
inductive Sil (P:aM):am->List am->am->List am->Prop
 |refl (fr:am) (cs:List am):Sil P fr cs fr cs
 |step {fr j5 iJ:am} {cs eT BG:List am}:(∀w,aV P true (G fr cs) w=.go (G j5 eT) w #[])->Sil P j5 eT iJ BG->Sil P fr cs iJ BG
theorem Sil.runs {P:aM} {eD:am} {fZ:List am} (hs:Sil P fr cs eD fZ):∀{gs:Array aq} {w:ae} {sl:Option (Nat×Nat)} {t:bo} {q:Nat->Nat},gs[0]?=some (G fr cs)->bp P t gs q->jD SB w gs.size t->
  ∃(eX:Array aq) (d:Nat) (sl':Option (Nat×Nat)) (t':bo) (q':Nat->Nat),Runs P gs w sl t eX (w.at d) sl' t'/\eX.size=gs.size/\eX[0]?=some (G eD fZ)/\bp P t' eX q'/\jD SB (w.at d) eX.size t':=by
 induction hs with
 |refl fr cs=>exact λ{gs w sl t q} h0 hL hP=>⟨gs,w.drawn,sl,t,q,⟨0,rfl⟩,rfl,h0,hL,hP⟩
 |step h1 _ ih=>
  intro gs w sl t q h0 hL hP;obtain⟨N,lK,a1,d,w1,es,jC,t1,q1,hr,hgo,hz,o8,uf,tZ,_⟩:=CV (P:=P) (SB:=SB) (sl:=sl) h0 rfl hL hP λd=>⟨_,_,_,h1 _,ji _,by simp⟩
  rw[h1]at hgo;injection hgo with e1 e2 e3;subst e1;subst e2;obtain⟨rE,d2,qJ,t2,q2,Dc,qV,h02,WO,hP2⟩:=ih (sl:=jC) o8 uf tZ;exact⟨rE,d2,qJ,t2,q2,Runs.trans ⟨N,hr⟩ Dc,qV.trans hz,h02,WO,hP2⟩
theorem Co.sil {eD:am} {fZ:List am} (h:Co X Fb bl SB ρ gs fr cs w t q) (hs:Sil X.P fr cs eD fZ)
  (hf:bl eD.fn=false->FR X Fb true ρ (wt eD []) (wt eD [])) (hc:∀c∈fZ,bl c.fn=false->FR X Fb true ρ (wt c []) (wt c [])):
  ∃(eX:Array aq) (d:Nat) (sl':Option (Nat×Nat)) (t':bo) (q':Nat->Nat),Runs X.P gs w sl t eX (w.at d) sl' t'/\eX.size=gs.size/\Co X Fb bl SB ρ eX eD fZ (w.at d) t' q':=by
 obtain⟨eX,d,sl',t',q',h1,h2,h3,h4,h5⟩:=hs.runs (SB:=SB) (sl:=sl) h.g0 h.leavers h.past;exact⟨eX,d,sl',t',q',h1,h2,⟨h3,h4,h5,⟨h.foot.apart,h.foot.low,h.foot.own,h.foot.foot⟩,hf,hc,⟨h.wr.fn,h.wr.inj,h.wr.heap,λ_ _=>rfl,h.wr.sh⟩,h.nb⟩⟩
end
def fbL:List Nat:=[10,12,14,16,17,18,19,22,23,24,25,26,28,29,30,31,32,33,34,35,36,37,38,39,40,41,42,43,44,45,46,47,48,49,50,51,52,56,58,59,60,61,62,63,64,65,66,67,68,69,70,71,72,73,74,75,76,90,91,97,98,99,100,101,102,103,104,105,106,107,108,109,110,111,112,113,114,115,116,117,122,123,124,126,127,128,129,130,131,132,133,134,135,136,137,138,139,140,141,142,143,144,145,146,147,148,149,150,151,152,153,154,155,156,157,158,159]
def Vx:List Nat:=[56,90,91,122,123,124,135,136,137,142,143,144,145,146,147,148,149,150,151,152,153,154,155,156,157,158,159]
def fb (f:aC):Bool:=fbL.contains f
def fbP (f:aC):Bool:=Vx.contains f
noncomputable def okf (P:aM) (b:aC->Bool) (wr:Bool) (f:Nat):Bool:=match P.funcs[f]? with
 |some fn=>match fn.body with
  |some c=>codeOk P P b wr c&&!(fn.name== "runtime.NumGoroutine")
  |none=>false
 |none=>false
theorem IG {P:aM} {b:aC->Bool} {l:List Nat} {wr:Bool} (h:l.all (okf P b wr)=true) (f:aC) (hf:l.contains f=true):
  ∃fn c,P.funcs[f]?=some fn/\fn.body=some c/\codeOk P P b wr c=true/\(fn.name== "runtime.NumGoroutine")=false:=by
 rw[bD]at h;have:=h f (List.contains_iff_mem.1 hf);unfold okf at this;cases h1:P.funcs[f]? with
 |none=>rw[h1]at this;cases this
 |some fn=>
  rw[h1]at this;cases h2:fn.body with
  |none=>simp only[h2]at this;cases this
  |some c=>
   simp only[h2,aR,Bool.not_eq_true']at this;exact⟨fn,c,rfl,h2,this.1,this.2⟩
theorem UX:fbL.all (okf prog fb true)=true:=by kernel_rfl
theorem Rc:Vx.all (okf prog fbP false)=true:=by kernel_rfl
def blG (f:aC):Bool:=[3,4,5,6,7,8,10,11].contains f
noncomputable def XG:Cx:=⟨prog,prog,λf=>fb f=true,λc=>codeOk prog prog fb true c=true,λ_=>False⟩
noncomputable def XW (Sh:Nat->Prop):Cx:=⟨prog,prog,λf=>fbP f=true,λc=>codeOk prog prog fbP false c=true,Sh⟩
theorem TN:prog.globals.size=0:=by kernel_rfl
theorem okXG:XG.Ok fb:=⟨rfl,λ_ h=>h,TN,λ_ _ _=>rfl,λ_ _ _=>rfl,λf hf=>by
 obtain⟨fn,c,h1,h2,_,h4⟩:=IG UX f hf
 exact⟨fn,fn,h1,h1,by rw[h2];rfl,by rw[h2];rfl,h4,h4⟩⟩
theorem Nj:XG.Set fb true (λ_=>false):=⟨okXG,λ_=>Iff.rfl,λ_ _ h=>h,λf hf _=>by
 obtain⟨fn,c,h1,h2,h3,_⟩:=IG UX f hf
 exact⟨fn,c,h1,h1,h2,h3⟩⟩
theorem okXW (Sh:Nat->Prop):(XW Sh).Ok fbP:=⟨rfl,λ_ h=>h,TN,λ_ _ _=>rfl,λ_ _ _=>rfl,λf hf=>by
 obtain⟨fn,c,h1,h2,_,h4⟩:=IG Rc f hf
 exact⟨fn,fn,h1,h1,by rw[h2];rfl,by rw[h2];rfl,h4,h4⟩⟩
theorem jkb (Sh:Nat->Prop):(XW Sh).Set fbP false (λ_=>false):=⟨okXW Sh,λ_=>Iff.rfl,(λh=>by cases h),λf hf _=>by
 obtain⟨fn,c,h1,h2,h3,_⟩:=IG Rc f hf
 exact⟨fn,c,h1,h1,h2,h3⟩⟩
structure FOk (F O:Blocks) (w:ae):Prop where
 low:∀b,F b->b<w.heap.size
 own:∀b,O b->F b
theorem FOk.ext (h:FOk F O w) (e:Ext F w w1):FOk F O w1:=⟨λb hb=>xll (h.low b hb) e.size,h.own⟩
theorem FOk.quiet (h:FOk F O w) (d:Nat) {es:Array Event} (he:∀e∈es,EvF F O e):tJ F O w F O {w with drawn:=w.drawn+d} es:=
 ⟨λ_ h=>h,λ_ h=>h,λ_ h=>.inl h,λ_ h=>.inl h,h.own,λ_ _ _=>rfl,ji _,h.low,⟨d,rfl⟩,rfl,rfl,rfl,he,id⟩
section
variable {P:aM} {main:Bool} {Stop:Blocks->Blocks->aq->ae->Prop} {F O:Blocks} {g g':aq} {w:ae}
theorem WG.ctl (hr:g.status=.running) (hF:FOk F O w) (hs:∀w1,aV P main g w1=.go g' w1 #[]) (k:WG P main Stop F O g' w):WG P main Stop F O g w:=
 WG.step hr λw1 e=>⟨F,O,g',w1,#[],hs w1,(hF.ext e).quiet 0 (by simp),k.ext e⟩
theorem WG.quiet (hr:g.status=.running) (hF:FOk F O w) (hs:∀w1,Ext F w w1->∃g' d es,aV P main g w1=.go g' {w1 with drawn:=w1.drawn+d} es/\(∀e∈es,EvF F O e)/\WG P main Stop F O g' {w1 with drawn:=w1.drawn+d}):WG P main Stop F O g w:=
 WG.step hr λw1 e=>by
  obtain⟨g',d,es,h1,h2,h3⟩:=hs w1 e;exact⟨F,O,g',_,es,h1,(hF.ext e).quiet d h2,h3⟩
variable {b:am} {a:Act} {k:List Item} {cs:List am} {ops:Array Oper} {i:Nat} {rest:List Nat} {o:Oper}
theorem WG.value (v:ag) (hF:FOk F O w) (ho:ops[i]?=some o) (hw:aa o (az ops a.tmps)=true) (hk:b.kind≠.early)
  (hr:∀w1,Ext F w w1->(ai a.eval o).run P w1=.ok (.value v) w1/\∀e∈(ai a.eval o).events P w1 #[],EvF F O e)
  (n:WG P main Stop F O (G (b.at (a.put o.dst v) (.inRegion ops rest::k)) cs) w):WG P main Stop F O (G (b.at a (.inRegion ops (i::rest)::k)) cs) w:=
 WG.quiet rfl hF λw1 e=>⟨_,0,_,bd ho hw hk (hr w1 e).1,λe' he=>(hr w1 e).2 e' (bq he),n.ext e⟩
theorem EG {F O:Blocks} (h:F ad.block):EvF F O ⟨.cell ad,false,false⟩:=⟨rfl,h,λh=>by cases h⟩
end
noncomputable def yc:Array Oper:=match Tryz.f54.body with
 |some (.seq _ (.region _ ops _))=>ops
 |_=>#[]
theorem vO {a:Addr} (h:w1.heap[a.block]?=w.heap[a.block]?):w1.cell? a=w.cell? a:=by unfold aG;rw[h]
structure Ci (F:Blocks) (kb cb fb tb cl i:Nat) (dp s t:ag) (w:ae):Prop where
 k:w.cell? ⟨kb,0,none⟩=some (.int .i64 i)
 c:w.cell? ⟨cb,0,none⟩=some (.pointer (some ⟨cl,0,none⟩))
 f:w.cell? ⟨fb,0,none⟩=some s
 t:w.cell? ⟨tb,0,none⟩=some t
 d:w.cell? ⟨cl,1+i*3+1,none⟩=some dp
 Fk:F kb
 Fc:F cb
 Ff:F fb
 Ft:F tb
 Fd:F cl
theorem Ci.ext {fb:Nat} {dp s t:ag} (h:Ci F kb cb fb tb cl i dp s t w) (e:Ext F w w1):Ci F kb cb fb tb cl i dp s t w1:=
 ⟨(vO (e.keep _ h.Fk)).trans h.k,(vO (e.keep _ h.Fc)).trans h.c,(vO (e.keep _ h.Ff)).trans h.f,(vO (e.keep _ h.Ft)).trans h.t,(vO (e.keep _ h.Fd)).trans h.d,h.Fk,h.Fc,h.Ff,h.Ft,h.Fd⟩
section
variable {kb cb fb tb cl i:Nat} {dp s t:ag}
def ni (cl i:Nat) (dp s t:ag):Nat->ag
 |0=>.int .i64 i
 |1=>.pointer (some ⟨cl,0,none⟩)
 |2=>.int .i64 i
 |3=>.pointer (some ⟨cl,0,none⟩)
 |4=>.pointer (some ⟨cl,1,none⟩)
 |5=>.pointer (some ⟨cl,1+i*3,none⟩)
 |6=>.pointer (some ⟨cl,1+i*3+1,none⟩)
 |7=>dp
 |8=>s
 |_=>t
structure WkT (kb cb fb tb cl i C Wg:Nat) (dp s t:ag) (listed:Array Bool) (T:Array ag):Prop where
 size:T.size=18
 t1:T.getD 1 ac=.pointer (some ⟨cb,0,none⟩)
 t2:T.getD 2 ac=.pointer (some ⟨kb,0,none⟩)
 t3:T.getD 3 ac=.pointer (some ⟨fb,0,none⟩)
 t4:T.getD 4 ac=.pointer (some ⟨tb,0,none⟩)
 t5:T.getD 5 ac=.pointer (some ⟨C,0,none⟩)
 val:∀j,j<10->listed.getD j false=true->T.getD (6+j) ac=ni cl i dp s t j
variable {C Wg:Nat} {listed:Array Bool} {T:Array ag} {F O:Blocks} {w:ae} {ds:List cZ}
theorem yX (h:j∈aw .any yc listed) (ho:yc[j]?=some o) (q:Nat) (e:Edge) (he:o.after[q]?=some e) (hb:Region.binds .any e=true):listed.getD e.on false=true:=by
 obtain⟨_,o',zL,fH⟩:=bE.1 h;rw[ho]at zL;cases zL;exact fH e (Array.mem_of_getElem? he) hb
theorem QO (hi:i<4) (hT:WkT kb cb fb tb cl i C Wg dp s t listed T) (hw:Ci F kb cb fb tb cl i dp s t w) (hj:j<10) (hr:j∈aw .any yc listed):
  ∃o,yc[j]?=some o/\o.guard=none/\o.dst=some (6+j)/\(ai (ah T ds).eval o).run prog w=.ok (.value (ni cl i dp s t j)) w/\∀e∈(ai (ah T ds).eval o).events prog w #[],EvF F O e:=by
 have e1:(ah T ds).eval (.tmp 1)=.pointer (some ⟨cb,0,none⟩):=hT.t1;have e2:(ah T ds).eval (.tmp 2)=.pointer (some ⟨kb,0,none⟩):=hT.t2;have e3:(ah T ds).eval (.tmp 3)=.pointer (some ⟨fb,0,none⟩):=hT.t3;have e4:(ah T ds).eval (.tmp 4)=.pointer (some ⟨tb,0,none⟩):=hT.t4;have dep:∀j',j'<10->listed.getD j' false=true->(ah T ds).eval (.tmp (6+j'))=ni cl i dp s t j':=λj' h1 h2=>hT.val j' h1 h2;have Hl:((i:Int)<4):=by omega
 have k1:=hw.k;have k2:=hw.c;have k3:=hw.f;have k4:=hw.t;have k5:=hw.d;generalize (ah T ds).eval=e at*;have af:=λo (ho:yc[j]?=some o)=>yX (listed:=listed) hr ho;clear hr;match j,hj with
 |0,_=>
  obtain⟨o,ho,dW,hd,hg⟩:∃o,yc[0]?=some o/\o.op=.load 3 (.tmp 2)/\o.dst=some (6+0)/\o.guard=none:=⟨_,rfl,rfl,rfl,rfl⟩
  refine⟨o,ho,hg,hd,?_,?_⟩
  ·unfold ai;simp[go_sem,dW,ni,e2,k1]
  ·unfold ai;simp[go_sem,dW,e2,k1];exact EG hw.Fk
 |1,_=>
  obtain⟨o,ho,dW,hd,hg⟩:∃o,yc[1]?=some o/\o.op=.load 40 (.tmp 1)/\o.dst=some (6+1)/\o.guard=none:=⟨_,rfl,rfl,rfl,rfl⟩
  refine⟨o,ho,hg,hd,?_,?_⟩
  ·unfold ai;simp[go_sem,dW,ni,e1,k2]
  ·unfold ai;simp[go_sem,dW,e1,k2];exact EG hw.Fc
 |2,_=>
  obtain⟨o,ho,dW,hd,hg⟩:∃o,yc[2]?=some o/\o.op=.load 3 (.tmp 2)/\o.dst=some (6+2)/\o.guard=none:=⟨_,rfl,rfl,rfl,rfl⟩
  refine⟨o,ho,hg,hd,?_,?_⟩
  ·unfold ai;simp[go_sem,dW,ni,e2,k1]
  ·unfold ai;simp[go_sem,dW,e2,k1];exact EG hw.Fk
 |3,_=>
  have d1:=dep 1 (by omega) (af _ rfl 0 ⟨1,.data⟩ rfl rfl);simp only[ni,aL]at d1;obtain⟨o,ho,dW,hd,hg⟩:∃o,yc[3]?=some o/\o.op=.nilCheck (.tmp 7)/\o.dst=some (6+3)/\o.guard=none:=⟨_,rfl,rfl,rfl,rfl⟩
  refine⟨o,ho,hg,hd,?_,?_⟩
  ·unfold ai;simp[go_sem,dW,ni,d1]
  ·unfold ai;simp[go_sem,dW,d1]
 |4,_=>
  have d3:=dep 3 (by omega) (af _ rfl 0 ⟨3,.data⟩ rfl rfl);simp only[ni,aL]at d3;obtain⟨o,ho,dW,hd,hg⟩:∃o,yc[4]?=some o/\o.op=.fieldAddr 83 (.tmp 9) 1/\o.dst=some (6+4)/\o.guard=none:=⟨_,rfl,rfl,rfl,rfl⟩
  refine⟨o,ho,hg,hd,?_,?_⟩
  ·unfold ai;simp[go_sem,dW,ni,d3]
  ·unfold ai;simp[go_sem,dW,d3]
 |5,_=>
  have d4:=dep 4 (by omega) (af _ rfl 0 ⟨4,.data⟩ rfl rfl);simp only[ni,aL]at d4;have d2:=dep 2 (by omega) (af _ rfl 1 ⟨2,.data⟩ rfl rfl);simp only[ni,aL]at d2;obtain⟨o,ho,dW,hd,hg⟩:∃o,yc[5]?=some o/\o.op=.indexAddr 81 (.tmp 10) (.tmp 8)/\o.dst=some (6+5)/\o.guard=none:=⟨_,rfl,rfl,rfl,rfl⟩
  refine⟨o,ho,hg,hd,?_,?_⟩
  ·unfold ai;simp[go_sem,dW,ni,d4,d2,Hl]
  ·unfold ai;simp[go_sem,dW,d4,d2,Hl,Instr.indexAt];intro e h4;omega
 |6,_=>
  have d5:=dep 5 (by omega) (af _ rfl 0 ⟨5,.data⟩ rfl rfl);simp only[ni,aL]at d5;obtain⟨o,ho,dW,hd,hg⟩:∃o,yc[6]?=some o/\o.op=.fieldAddr 80 (.tmp 11) 1/\o.dst=some (6+6)/\o.guard=none:=⟨_,rfl,rfl,rfl,rfl⟩
  refine⟨o,ho,hg,hd,?_,?_⟩
  ·unfold ai;simp[go_sem,dW,ni,d5]
  ·unfold ai;simp[go_sem,dW,d5]
 |7,_=>
  have d6:=dep 6 (by omega) (af _ rfl 0 ⟨6,.data⟩ rfl rfl);simp only[ni,aL]at d6;obtain⟨o,ho,dW,hd,hg⟩:∃o,yc[7]?=some o/\o.op=.load 77 (.tmp 12)/\o.dst=some (6+7)/\o.guard=none:=⟨_,rfl,rfl,rfl,rfl⟩
  refine⟨o,ho,hg,hd,?_,?_⟩
  ·unfold ai;simp[go_sem,dW,ni,d6,k5]
  ·unfold ai;simp[go_sem,dW,d6,k5];exact EG hw.Fd
 |8,_=>
  obtain⟨o,ho,dW,hd,hg⟩:∃o,yc[8]?=some o/\o.op=.load 9 (.tmp 3)/\o.dst=some (6+8)/\o.guard=none:=⟨_,rfl,rfl,rfl,rfl⟩
  refine⟨o,ho,hg,hd,?_,?_⟩
  ·unfold ai;simp[go_sem,dW,ni,e3,k3]
  ·unfold ai;simp[go_sem,dW,e3,k3];exact EG hw.Ff
 |9,_=>
  obtain⟨o,ho,dW,hd,hg⟩:∃o,yc[9]?=some o/\o.op=.load 9 (.tmp 4)/\o.dst=some (6+9)/\o.guard=none:=⟨_,rfl,rfl,rfl,rfl⟩
  refine⟨o,ho,hg,hd,?_,?_⟩
  ·unfold ai;simp[go_sem,dW,ni,e4,k4]
  ·unfold ai;simp[go_sem,dW,e4,k4];exact EG hw.Ft
 |_+10,h=>omega
end
theorem M8 (p p':Nat->Bool) (i:Nat) (h:∀j,j≠i->p' j=p j) (hp:p i=true) (Bn:p' i=false):∀l:List Nat,l.Nodup->i∈l->l.countP p'+1=l.countP p
 |[],_,hi=>by cases hi
 |x::l,hn,hi=>by
  rw[List.nodup_cons]at hn;by_cases hx:x=i
  ·subst hx;have e:l.countP p'=l.countP p:=List.countP_congr λj hj=>by rw[h j (λe=>hn.1 (e▸hj))]
   simp[List.countP_cons,hp,Bn,e]
  ·have:=M8 p p' i h hp Bn l hn.2 ((aE.1 hi).resolve_left (λe=>hx e.symm));simp only[List.countP_cons,h x hx];omega
def cnt (listed:Array Bool):Nat:=(da 13).countP λj=>!listed.getD j true
theorem Rm {listed:Array Bool} (hi:i<13) (hs:listed.size=13) (h:listed.getD i true=false):cnt (listed.setIfInBounds i true)+1=cnt listed:=by
 refine M8 _ _ i (λj hj=>?_) (by simpa using h) ?_ _ List.nodup_range (dc.2 hi)
 ·rw[bR true (aS hj)]
 ·have:i<listed.size:=by omega
  simp[this]
theorem Yg:(da 13).all (λn=>match yc[n]? with|some o=>o.after.all λe=>decide (e.on<n)|none=>false)=true:=by kernel_rfl
theorem MR:yc.size=13:=rfl
theorem ZB {listed:Array Bool} (hs:listed.size=13) (h:∃j,j<13/\listed.getD j true=false):aw .any yc listed≠[]:=by
 have hb:=Yg;rw[bD]at hb;have key:∀n,n<=13->(∀j,j<n->listed.getD j false=true)\/∃j,j∈aw .any yc listed:=by
  intro n;induction n with
  |zero=>intro _;exact .inl λj hj=>absurd hj (Nat.not_lt_zero _)
  |succ n ih=>
   intro hn;rcases ih (by omega)with h1|h1
   ·have dY:n<listed.size:=by omega
    cases hv:listed.getD n false with
    |true=>
     refine .inl λj hj=>?_;rcases Nat.lt_or_ge j n with h2|h2
     ·exact h1 j h2
     ·obtain rfl:j=n:=by omega
      exact hv
    |false=>
     refine .inr ⟨n,bE.2 ⟨?_,?_⟩⟩
     ·simp[dY]at hv⊢;exact hv
     ·have:=hb n (dc.2 (by omega));cases ho:yc[n]? with
      |none=>rw[ho]at this;cases this
      |some o=>
       rw[ho]at this;refine⟨o,rfl,λe he _=>h1 _ ?_⟩;have:=(Array.all_eq_true_iff_forall_mem.1 this) e he;simpa using this
   ·exact .inr h1
 obtain⟨j,hj,Oq⟩:=h;rcases key 13 (ji _)with h1|⟨j',h1⟩
 ·have:=h1 j hj;have dY:j<listed.size:=by omega
  simp[dY]at this Oq;rw[this]at Oq;cases Oq
 ·exact List.ne_nil_of_mem h1
theorem go_open {listed:Array Bool} {fuel t:Nat} (h:aw .any yc listed≠[]):∃i t',i∈aw .any yc listed/\
  ax .any yc (fuel+1) t listed []=i::ax .any yc fuel t' (listed.setIfInBounds i true) []:=by
 have dY:t%(aw .any yc listed).length<(aw .any yc listed).length:=Nat.mod_lt _ (List.length_pos_iff.2 h);refine⟨(aw .any yc listed)[t%(aw .any yc listed).length],t/(aw .any yc listed).length,List.getElem_mem _,?_⟩;simp only[ax];change (match(aw .any yc listed)[t%(aw .any yc listed).length]? with
   |some i=>ax .any yc fuel (t/(aw .any yc listed).length) (listed.setIfInBounds i true) [i]
   |none=>[].reverse)=_
 rw[List.getElem?_eq_getElem dY];simp only[];rw[linearise_go_acc];rfl
theorem WG.keep {P:aM} {main:Bool} {F0:Blocks}:∀{F O:Blocks} {g:aq} {w:ae},WG P main Stop F O g w->(∀b,F0 b->F b/\¬O b/\b<w.heap.size)->
  ∀{w0:ae},Ext F0 w0 w->WG P main (λF O g w1=>Stop F O g w1/\Ext F0 w0 w1/\∀b,F0 b->F b/\¬O b/\b<w1.heap.size) F O g w:=by
 rintro F O g w ⟨r,h⟩;induction r generalizing F O g w with
 |leaf=>
  intro h0 w0 e0;exact WG.stop λw1 e=>⟨h w1 e,e0.trans (e.sub λb hb=>(h0 b hb).1),λb hb=>⟨(h0 b hb).1,(h0 b hb).2.1,xll (h0 b hb).2.2 e.size⟩⟩
 |node f ih=>
  intro h0 w0 e0;refine WG.step h.1 λw1 e=>?_;obtain⟨F',O',g',w',es,h1,h2,h3⟩:=h.2 w1 e;have e1:Ext F0 w0 w1:=e0.trans (e.sub λb hb=>(h0 b hb).1);have dY:∀b,F0 b->b<w1.heap.size:=λb hb=>xll (h0 b hb).2.2 e.size;exact⟨F',O',g',w',es,h1,h2,ih w1 h3 (λb hb=>⟨h2.sub b (h0 b hb).1,λho=>(h2.Au b ho).elim (h0 b hb).2.1 (λhle=>Nat.lt_irrefl _ (xll (dY b hb) hle)),xll (dY b hb) h2.size⟩)
   (e1.trans ⟨h2.size,λb hb=>h2.keep b (dY b hb) (h0 b hb).2.1⟩)⟩
theorem vw {T:Array ag} {v:ag} (h:j<T.size):(T.setIfInBounds j v).getD j ac=v:=by simp[h]
theorem qy {T:Array ag} {j':Nat} {v:ag} (h:j≠j'):(T.setIfInBounds j v).getD j' ac=T.getD j' ac:=by
 simp[xne h]
theorem jc2 {listed:Array Bool} {t:Nat} (h:∀j,j∈aw .any yc listed->False):∀{fuel:Nat},ax .any yc fuel t listed []=[]
 |0=>rfl
 |fuel+1=>by
  have hr:aw .any yc listed=[]:=List.eq_nil_iff_forall_not_mem.2 h;simp only[ax];change (match(aw .any yc listed)[t%(aw .any yc listed).length]? with
    |some i=>ax .any yc fuel (t/(aw .any yc listed).length) (listed.setIfInBounds i true) [i]
    |none=>[].reverse)=_
  rw[hr];rfl
def AtRet (P:aM) (R:Blocks->ag->ae->Prop) (base:List am) (F O:Blocks) (g:aq) (w:ae):Prop:=
 FOk F O w/\∃v,R F v w/\g.status=.running/\∀c cs,base=c::cs->∀w1,aV P false g w1=.go (G (c.finish v) cs) w1 #[]
section
variable {kb cb fb tb cl i C Wg:Nat} {dp s t:ag} {listed:Array Bool} {T:Array ag} {ds:List cZ}
theorem WkT.set (hT:WkT kb cb fb tb cl i C Wg dp s t listed T) (v:ag) (hv:j<10->v=ni cl i dp s t j) (hj:6+j<18) (hl:listed.size=13):WkT kb cb fb tb cl i C Wg dp s t (listed.setIfInBounds j true) (T.setIfInBounds (6+j) v):=by
 refine⟨by simpa using hT.size,?_,?_,?_,?_,?_,λj' Hg h=>?_⟩
 ·rw[qy (by omega)];exact hT.t1
 ·rw[qy (by omega)];exact hT.t2
 ·rw[qy (by omega)];exact hT.t3
 ·rw[qy (by omega)];exact hT.t4
 ·rw[qy (by omega)];exact hT.t5
 ·by_cases e:j=j'
  ·subst e;rw[vw (by rw[hT.size];omega)];exact hv Hg
  ·rw[qy (by omega)];rw[bR false e]at h;exact hT.val j' Hg h
variable {ja:Blocks->ag->ae->Prop} {F0:Blocks} {w0:ae} {b:am} {k:List Item} {cs:List am} {Stop:Blocks->Blocks->aq->ae->Prop}
theorem wReg (hi:i<4) (hk:b.kind≠.early) (jg:∀F v w w1,ja F v w->Ext F w w1->ja F v w1)
  (pW:∀(c:am) (w1:ae),Ext F0 w0 w1->WG prog false (AtRet prog ja (c::cs)) F0 (λ_=>False) (G (av prog 56 #[dp,s,t] .normal) (c::cs)) w1)
  (eH:∀F O w T v,FOk F O w->(∀b,F0 b->F b)->ja F v w->T.getD 16 ac=v->T.getD 17 ac=.pointer (some ⟨C,i,none⟩)->T.size=18->Stop F O (G (b.at ⟨T,ds⟩ (.inRegion yc [12]::k)) cs) w):
  ∀(fuel t':Nat) (listed:Array Bool) (T:Array ag) (F O:Blocks) (w:ae),listed.size=13->cnt listed=fuel->WkT kb cb fb tb cl i C Wg dp s t listed T->Ci F0 kb cb fb tb cl i dp s t w->FOk F O w->(∀b,F0 b->F b)->
   listed.getD 12 true=false->(listed.getD 10 false=true->ja F (T.getD 16 ac) w)->(listed.getD 10 false=false->F=F0/\O=(λ_=>False)/\Ext F0 w0 w)->(listed.getD 11 false=true->T.getD 17 ac=.pointer (some ⟨C,i,none⟩))->
   WG prog false Stop F O (G (b.at ⟨T,ds⟩ (.inRegion yc (ax .any yc fuel t' listed [])::k)) cs) w:=by
 intro fuel;induction fuel with
 |zero=>
  intro t' listed T F O w eU hc _ _ _ _ zX;exfalso;have:=Rm (i:=12) (by omega) eU zX;omega
 |succ fuel ih=>
  intro t' listed T F O w eU hc hT ic hF jP zX iN Vw nP;obtain⟨j,t2,hj,e⟩:=go_open (fuel:=fuel) (t:=t') (ZB eU ⟨12,by omega,zX⟩);rw[e];have jO:listed.getD j true=false:=(bE.1 hj).1;have NN:j<13:=by
   obtain⟨_,o,ho,_⟩:=bE.1 hj;have:=(yx ho).1;rwa [MR]at this
  have gH:=Rm NN eU jO;have um:(listed.setIfInBounds j true).size=13:=by simpa using eU
  have eB:∀{n:Nat} {d:Bool},n≠j->(listed.setIfInBounds j true).getD n d=listed.getD n d:=λh=>bR _ (aS h);rcases(by omega:j<10\/j=10\/j=11\/j=12)with h|rfl|rfl|rfl
  ·-- one of the first ten
   obtain⟨o,ho,hg,hd,hr,lX⟩:=QO (F:=F) (O:=O) (ds:=ds) hi hT (w:=w) ⟨ic.k,ic.c,ic.f,ic.t,ic.d,jP _ ic.Fk,jP _ ic.Fc,jP _ ic.Ff,jP _ ic.Ft,jP _ ic.Fd⟩ h hj;have dU:aa o (az yc (ah T ds).tmps)=true:=by unfold aa;rw[hg]
   refine WG.value (ni cl i dp s t j) hF ho dU hk (λw1 e1=>?_) ?_
   ·obtain⟨o',zL,_,_,gu,Qa⟩:=QO (F:=F) (O:=O) (ds:=ds) hi hT (w:=w1) (Ci.ext ⟨ic.k,ic.c,ic.f,ic.t,ic.d,jP _ ic.Fk,jP _ ic.Fc,jP _ ic.Ff,jP _ ic.Ft,jP _ ic.Fd⟩ e1) h hj;rw[ho]at zL;cases zL;exact⟨gu,Qa⟩
   ·rw[hd];refine ih t2 _ _ F O w um (by omega) (hT.set _ (λ_=>rfl) (by omega) eU) ic hF jP (by rw[eB (by omega)];exact zX) (λh1=>?_) (λh1=>?_) (λh1=>?_)
    ·rw[eB (by omega)]at h1;show ja F ((T.setIfInBounds (6+j) _).getD 16 ac) w;rw[qy (by omega)];exact iN h1
    ·rw[eB (by omega)]at h1;exact Vw h1
    ·rw[eB (by omega)]at h1;show(T.setIfInBounds (6+j) _).getD 17 ac=_;rw[qy (by omega)];exact nP h1
  ·-- the call
   have Qk:listed.getD 10 false=false:=by
    have dY:10<listed.size:=by omega
    simp[dY]at jO⊢;exact jO
   obtain⟨rfl,rfl,e0⟩:=Vw Qk;obtain⟨o,ho,dW,hd,hg⟩:∃o,yc[10]?=some o/\o.op=.call {callee:=.value (.func 56),args:=#[.tmp 13,.tmp 14,.tmp 15],argTypes:=#[77,9,9]}/\o.dst=some 16/\o.guard=none:=⟨_,rfl,rfl,rfl,rfl⟩
   have a7:=hT.val 7 (by omega) (yX hj (o:=_) rfl 0 ⟨7,.data⟩ rfl rfl);have a8:=hT.val 8 (by omega) (yX hj (o:=_) rfl 1 ⟨8,.data⟩ rfl rfl);have a9:=hT.val 9 (by omega) (yX hj (o:=_) rfl 2 ⟨9,.data⟩ rfl rfl);have dU:aa o (az yc (ah T ds).tmps)=true:=by unfold aa;rw[hg]
   have ev:∀w1,(ai (ah T ds).eval o).run prog w1=.ok (.enter 56 #[dp,s,t]) w1/\(ai (ah T ds).eval o).events prog w1 #[]=#[]:=λw1=>by
    have b7:(ah T ds).eval (.tmp 13)=dp:=a7;have b8:(ah T ds).eval (.tmp 14)=s:=a8;have b9:(ah T ds).eval (.tmp 15)=t:=a9;generalize he:(ah T ds).eval=e at*;have bf:e (.func 56)=.func (.func 56) #[] #[]:=by rw[<-he];rfl
    unfold ai;constructor
    ·simp[go_sem,dW,b7,b8,b9,bf]
    ·simp[go_sem,dW,b7,b8,b9,bf];simp[de,go_sem,func56,Tryz.f56]
   have oI:∀x,F x->F x/\¬(λ_=>False:Blocks) x/\x<w.heap.size:=λx hx=>⟨hx,λh=>h,hF.low x hx⟩
   refine WG.quiet rfl hF λw1 e1=>⟨_,0,_,bT ho dU hk (ev w1).1,λe' he=>?_,?_⟩
   ·have:=bq he;rw[(ev w1).2]at this;simp at this
   refine WG.then (WG.keep (F0:=F) (pW _ w1 (e0.trans e1)) (λx hx=>⟨hx,λh=>h,xll (hF.low x hx) e1.size⟩) (Ext.refl F w1)) ?_;rintro F1 O1 g1 w2 ⟨⟨xK,v,hv,eG,Ai⟩,e2,ji3⟩;have P5:=ic.ext (e1.trans e2);refine WG.ctl eG xK (Ai _ _ rfl) ?_;rw[Frame.finish_at,ho];show WG _ _ _ _ _ (G (b.at ((ah T ds).put o.dst v) _) cs) w2;rw[hd];refine ih t2 _ _ F1 O1 w2 um (by omega) (hT.set (j:=10) v (λh=>by omega) (by omega) eU) P5 xK (λx hx=>(ji3 x hx).1) (by rw[eB (by omega)];exact zX) (λ_=>?_) (λh1=>?_) (λh1=>?_)
   ·show ja F1 ((T.setIfInBounds (6+10) v).getD 16 ac) w2;rw[vw (by rw[hT.size];omega)];exact hv
   ·have dY:10<listed.size:=by omega
    simp[dY]at h1
   ·rw[eB (by omega)]at h1;show(T.setIfInBounds (6+10) v).getD 17 ac=_;rw[qy (by omega)];exact nP h1
  ·-- the index
   have a0:=hT.val 0 (by omega) (yX hj (o:=_) rfl 0 ⟨0,.data⟩ rfl rfl);have pO:=yX hj (o:=_) rfl 11 ⟨10,.phase⟩ rfl rfl;obtain⟨o,ho,dW,hd,hg⟩:∃o,yc[11]?=some o/\o.op=.indexAddr 112 (.tmp 5) (.tmp 6)/\o.dst=some 17/\o.guard=none:=⟨_,rfl,rfl,rfl,rfl⟩
   have dU:aa o (az yc (ah T ds).tmps)=true:=by unfold aa;rw[hg]
   have Hl:((i:Int)<4):=by omega
   refine WG.value (.pointer (some ⟨C,i,none⟩)) hF ho dU hk (λw1 e1=>?_) ?_
   ·have b5:(ah T ds).eval (.tmp 5)=.pointer (some ⟨C,0,none⟩):=hT.t5;have b6:(ah T ds).eval (.tmp 6)=.int .i64 i:=a0;generalize he:(ah T ds).eval=e at*;unfold ai;constructor
    ·simp[go_sem,dW,b5,b6,Hl]
    ·simp[go_sem,dW,b5,b6,Hl,Instr.indexAt];intro e h4;omega
   ·rw[hd];refine ih t2 _ _ F O w um (by omega) (hT.set (j:=11) _ (λh=>by omega) (by omega) eU) ic hF jP (by rw[eB (by omega)];exact zX) (λh1=>?_) (λh1=>?_) (λ_=>?_)
    ·show ja F ((T.setIfInBounds (6+11) _).getD 16 ac) w;rw[qy (by omega)];exact iN pO
    ·rw[eB (by omega)]at h1;rw[pO]at h1;cases h1
    ·show(T.setIfInBounds (6+11) _).getD 17 ac=_;rw[vw (by rw[hT.size];omega)]
  ·-- the store
   have pO:=yX hj (o:=_) rfl 1 ⟨10,.data⟩ rfl rfl;have uh:=yX hj (o:=_) rfl 0 ⟨11,.data⟩ rfl rfl;have fH:∀j,j<12->listed.getD j false=true:=λj PZ=>by
    have ra:=λq e=>yX hj (o:=_) rfl q e;match j,PZ with
    |0,_=>exact ra 3 ⟨0,.phase⟩ rfl rfl
    |1,_=>exact ra 4 ⟨1,.phase⟩ rfl rfl
    |2,_=>exact ra 5 ⟨2,.phase⟩ rfl rfl
    |3,_=>exact ra 6 ⟨3,.phase⟩ rfl rfl
    |4,_=>exact ra 7 ⟨4,.phase⟩ rfl rfl
    |5,_=>exact ra 8 ⟨5,.phase⟩ rfl rfl
    |6,_=>exact ra 9 ⟨6,.phase⟩ rfl rfl
    |7,_=>exact ra 10 ⟨7,.phase⟩ rfl rfl
    |8,_=>exact ra 11 ⟨8,.phase⟩ rfl rfl
    |9,_=>exact ra 12 ⟨9,.phase⟩ rfl rfl
    |10,_=>exact pO
    |11,_=>exact uh
   have PL:ax .any yc fuel t2 (listed.setIfInBounds 12 true) []=[]:=jc2 λj Hg=>by
    have h1:=(bE.1 Hg).1;have XI:j<13:=by
     obtain⟨_,o,ho,_⟩:=bE.1 Hg;have:=(yx ho).1;rwa [MR]at this
    by_cases KX:j=12
    ·subst KX;have dY:12<listed.size:=by omega
     simp[dY]at h1
    ·rw[bR true (aS KX)]at h1;have h2:=fH j (by omega);have dY:j<listed.size:=by omega
     simp[dY]at h1 h2;rw[h1]at h2;cases h2
   rw[PL];exact WG.stop λw1 e1=>eH F O w1 T _ (hF.ext e1) jP (jg _ _ _ _ (iN pO) e1) rfl (nP uh) hT.size
end
end
section
open Go.Conc Go.ConcN Go.RowKit Go.Conc.Lib Go.ConcR.Gen Go.ConcN.Gen Go Sim
open Go.ConcR (KK wgBlock WgAt stA smA rd wr mk Payload Aside2 DC0 ofEvent_cell)
instance:Payload:=⟨112⟩
abbrev fW:aC:=54
def bW:am:=baseD fW
noncomputable def uw:am:={(default:am)with fn:=prog.funcs.size,defers:=[],mode:=.panicking [goexitEntry]}
noncomputable def Nv:Code:=Tryz.f54.body.getD .skip
theorem jji:(prog.funcs[bW.fn]?).any (·.norace)=false:=by kernel_rfl
def yH (Wg cb kb fb tb C:Nat):cZ:={target:=.fn (.func fW) #[.pointer (some ⟨Wg,0,none⟩),.pointer (some ⟨cb,0,none⟩),.pointer (some ⟨kb,0,none⟩),.pointer (some ⟨fb,0,none⟩),.pointer (some ⟨tb,0,none⟩),.pointer (some ⟨C,0,none⟩)],args:=#[]}
theorem je1 (T:Array ag):QuitsD prog 2 0 (G {bW.at ⟨T,[]⟩ []with mode:=.returning} [uw]):=by
 refine QuitsD.ctl (g':=G uw []) rfl (λw=>?_) ?_
 ·simp[G,aV,unwind,doReturn,results,Frame.at,bW,baseD,uw,func54,Tryz.f54,seen,GStep.after,goexitEntry]
 refine QuitsD.ctl (g':={G uw []with status:=.finished}) rfl (λw=>?_) ⟨rfl,rfl⟩;simp[G,aV,unwind,uw,goexitEntry,Frame.catches];rfl
theorem qtg (Wg cb kb fb tb C:Nat) (w:ae):aV prog false (born prog (yH Wg cb kb fb tb C)) w=
  .go (G (bW.at ⟨#[.pointer (some ⟨Wg,0,none⟩),.pointer (some ⟨cb,0,none⟩),.pointer (some ⟨kb,0,none⟩),.pointer (some ⟨fb,0,none⟩),.pointer (some ⟨tb,0,none⟩),.pointer (some ⟨C,0,none⟩),ac,ac,ac,ac,ac,ac,ac,ac,ac,ac,ac,ac],[]⟩ [.code Nv]) [uw]) w #[]:=by
 simp[born,yH,aV,unwind,callDeferred,invoke,de,func54,Tryz.f54,seen,GStep.after,G,av,Frame.at,bW,baseD,uw,Nv]
section
variable {main:Bool} {b:am} {a:Act} {kk:List Item} {cs:List am} {w:ae} {ops:Array Oper} {i:Nat} {rest:List Nat} {o:Oper}
theorem qp0 {x y:cw} (ho:ops[i]?=some o) (hw:aa o (az ops a.tmps)=true) (hk:b.kind≠.early) (dW:o.op=.store 47 x y) {u:ag} (hx:a.eval x=.pointer (some ad)) (hy:a.eval y=.slice sa n c) (hc:w.cell? ad=some u) (hz:w.frozen? ad=false) (hq:(prog.funcs[b.fn]?).any (·.norace)=false):
  aV prog main (G (b.at a (.inRegion ops (i::rest)::kk)) cs) w=.go (G (b.at (a.put o.dst ac) (.inRegion ops rest::kk)) cs) (w.setCell ad (.slice sa n c)) #[⟨.cell ad,true,false⟩]:=by
 have hr:(ai a.eval o).run prog w=.ok .skip (w.setCell ad (.slice sa n c)):=by
  unfold ai;simp only[dW,hx,hy];simp[go_sem,stored,hc,hz]
 have he:(ai a.eval o).events prog w #[]=#[⟨.cell ad,true,false⟩]:=by
  unfold ai;simp only[dW,hx,hy];simp[go_sem,storedEv,hc,hz]
 rw[stepG_none ho hw hk hr];unfold listed;rw[he,seen_eq hq (by simp)]
end
section
variable {C n i:Nat} {w:ae}
theorem q3r (hp:PayAt C n w) (hj:i<n):∃u,w.cell? ⟨C,i,none⟩=some u/\w.frozen? ⟨C,i,none⟩=false:=by
 obtain⟨arr,h1,h2⟩:=hp;exact⟨arr[i]'(by omega),by simp[aG,h1,h2,hj],by simp[cg,h1]⟩
end
theorem q3b:(Tryz.f55.name== "runtime.NumGoroutine")=false:=by kernel_rfl
section
variable {i C Wg:Nat}
theorem jki (T:Array ag) (v:ag) (hK:WgLive link.tWg Wg w/\Has C i v w):
  Goes prog false (RW link.tWg Wg C 4 0 i) (DWs Wg qD qD C 4 (i+1)) (AtR0 prog link.tWg Wg C 4 0 (i+1) v) 26 (G (bW.at ⟨T,[dcall 55 #[.pointer (some ⟨Wg,0,none⟩)]]⟩ (.inRegion yc []::[])) [uw]) w:=by
 have hA:= @doneN _ link prog IB qD qD Wg C 4 0 (i+1) v
 u_c au kn_rely hK
 u_c stepG_end kn_rely hK
 u_in kn_rely hK
 rw[stepG_unwind_enter rfl func55 q3b rfl];simp only[bz];refine⟨by u_nil,?_⟩
 walk_nrmf Tryz.f55
 simp only[body_done,doneFn,Option.getD_some]at hA;exact hA rfl (je1 T) _ hK
theorem jfv {T:Array ag} {v:ag} (hi:i<4) (hCW:C≠Wg) (hR:ja i F v w) (hsl:∃sa n c,v=.slice sa n c) (uZ:T.getD 16 ac=v) (OQ:T.getD 17 ac=.pointer (some ⟨C,i,none⟩)):
  Ew prog link.tWg Wg C 4 ja i F O (G (bW.at ⟨T,[dcall 55 #[.pointer (some ⟨Wg,0,none⟩)]]⟩ (.inRegion yc [12]::[])) [uw]) w:=by
 refine⟨rfl,v,hR,λw1 e1 hp hl=>?_⟩;obtain⟨u,oq,Bh⟩:=q3r (i:=i) hp hi;obtain⟨sa,n,c,rfl⟩:=hsl;obtain⟨o,ho,dW,hd,hg⟩:∃o,yc[12]?=some o/\o.op=.store 47 (.tmp 17) (.tmp 16)/\o.dst=none/\o.guard=none:=⟨_,rfl,rfl,rfl,rfl⟩
 have dU:aa o (az yc (ah T [dcall 55 #[.pointer (some ⟨Wg,0,none⟩)]]).tmps)=true:=by unfold aa;rw[hg]
 have hst:=qp0 (main:=false) (b:=bW) (kk:=[]) (cs:=[uw]) (rest:=[]) ho dU (by decide) dW (OQ:(ah T _).eval (.tmp 17)=_) (uZ:(ah T _).eval (.tmp 16)=_) oq Bh jji;have hK:=And.intro (let⟨st,sm,h⟩:=hl;(⟨st,sm,h.of_block ((aW _ ⟨C,i,none⟩ (.slice sa n c)).block Wg (aS hCW))⟩:WgLive link.tWg Wg (w1.setCell ⟨C,i,none⟩ (.slice sa n c)))) (q6m (i:=i) hp hi (.slice sa n c));rw[hd]at hst;exact⟨_,hst,26,jki T _ hK⟩
theorem qp3:Region.departs yc=false:=by kernel_rfl
theorem Zw {mixed:Bool} {t:Nat}:Region.schedule mixed yc t=ax .any yc 13 t (bM 13 false) []:=by
 unfold Region.schedule;rw[qp3];simp only[Bool.not_false,Bool.or_true,if_true];unfold Region.linearise;rw[MR]
theorem jad {fb:Nat} {dp s t:ag} {F0:Blocks} (hi:i<4) (hCW:C≠Wg) (jg:∀F v w w1,ja i F v w->Ext F w w1->ja i F v w1) (hsl:∀F v w,ja i F v w->∃sa n c,v=.slice sa n c)
  (ic:Ci F0 kb cb fb tb cl i dp s t w) (hF:FOk F0 (λ_=>False) w)
  (pW:∀(c:am) (cs:List am) (w1:ae),Ext F0 w w1->WG prog false (AtRet prog (ja i) (c::cs)) F0 (λ_=>False) (G (av prog 56 #[dp,s,t] .normal) (c::cs)) w1):
  Script prog link.tWg Wg C 4 ja i F0 (born prog (yH Wg cb kb fb tb C)) w:=by
 refine⟨F0,λ_ h=>h,?_⟩;refine WG.ctl rfl hF (qtg Wg cb kb fb tb C) ?_;have hb:Nv=.seq (.region 0 #[{dst:=none,op:=.defer {callee:=.value (.func 55),args:=#[.tmp 0],argTypes:=#[122]},type:=0,pos:= "cluster.go:120",after:=#[],guard:=none}] false) (.region 1 yc true):=rfl;rw[hb];refine WG.ctl rfl hF (λw1=>aD) ?_;refine WG.ctl rfl hF (λw1=>aA) ?_;refine WG.ctl rfl hF (λw1=>stepG_defer rfl rfl (by decide) rfl) ?_
 walk_nrm
 refine WG.ctl rfl hF (λw1=>au) ?_;refine WG.quiet rfl hF λw1 e1=>⟨_,1,#[],stepG_region_draw,by simp,?_⟩
 rw[Zw];show WG _ _ _ _ _ (G (bW.at ⟨#[.pointer (some ⟨Wg,0,none⟩),.pointer (some ⟨cb,0,none⟩),.pointer (some ⟨kb,0,none⟩),.pointer (some ⟨fb,0,none⟩),.pointer (some ⟨tb,0,none⟩),.pointer (some ⟨C,0,none⟩),ac,ac,ac,ac,ac,ac,ac,ac,ac,ac,ac,ac],[dcall 55 #[.pointer (some ⟨Wg,0,none⟩)]]⟩ _) _) _;refine wReg (Stop:=Ew prog link.tWg Wg C 4 ja i) (ds:=[dcall 55 #[.pointer (some ⟨Wg,0,none⟩)]]) (b:=bW) (k:=[]) (cs:=[uw]) (ja:=ja i) (F0:=F0) (w0:=w) (C:=C) (Wg:=Wg) hi (by decide) jg (λc w1 e=>pW c [uw] w1 e)
  (λF O w T v _ _ hR uZ OQ _=>jfv hi hCW hR (hsl _ _ _ hR) uZ OQ) 13 _ (bM 13 false) _ F0 (λ_=>False) _ rfl rfl ?_ (ic.ext ?_) (hF.ext ?_) (λ_ h=>h) rfl ?_ ?_ ?_
 ·refine⟨rfl,rfl,rfl,rfl,rfl,rfl,λj hj h=>?_⟩;have:(bM 13 false).getD j false=false:=by
   have NN:j<13:=by omega
   simp[NN]
  rw[this]at h;cases h
 ·exact⟨e1.size,e1.keep⟩
 ·exact⟨e1.size,e1.keep⟩
 ·intro h;cases h
 ·exact λ_=>⟨rfl,rfl,⟨e1.size,e1.keep⟩⟩
 ·intro h;cases h
end
end
end Ph
namespace Sim
open Go Go.Conc
def Lm (P:aM) (f:aC) (R:ag->ae->Prop) (fr:am) (cs:List am) (w:ae):Prop:=cs=[c0]/\fr.fn=f/\∃v,fr.leaving P w (.returned v)/\R v w
section
variable {X:Cx} {Fb:aC->Bool} {wr:Bool}
theorem qjz (S:X.Set Fb wr (λ_=>false)) {args:Array ag} (hinv:Inv X Fb wr (av X.P f args .normal) [c0] w) (hR:∀v w τ,R v (re w τ)->R v w)
  (hc:∀τ,Agree w τ->bU X.P f args (re w τ) fun|.returned v,w'=>R v w'|_,_=>False):mQ X.P (Lm X.P f R) (av X.P f args .normal) [c0] w:=by
 refine bar S (λfr cs w h=>?_) (λfr cs w τ hi ha h=>?_) hinv (λτ ha=>?_)
 ·obtain⟨-,-,v,h,-⟩:=h;intro ch e;rw[h.1]at e;cases e
 ·obtain⟨e,P8,v,⟨h1,h2,h3,fn,h4,h5⟩,hr⟩:=h;refine⟨e,P8,v,⟨h1,h2,h3,fn,h4,?_⟩,hR _ _ _ hr⟩;obtain⟨ρ,eD,up,up',w',e0,hf,-,hw,-,-⟩:=hi.re τ;rcases eG:(results fn fr.tmps).runT X.P (re w τ) #[]with⟨r0,gm⟩
  have h5':r0=.ok v (re w τ):=by rw[<-h5,<-Sem.runT_fst X.P _ _ #[],eG]
  subst h5';obtain⟨d1,d2,d3⟩:=(SS.results (f:=fn) S.ok hf.tmps).loc hw eG;have:=d3 w.tape (λi q hi=>(ha i q hi).symm);rw[<-Sem.runT_fst X.P _ _ #[]];have e:re (re w τ) w.tape=w:=rfl;rw[e]at this;rw[this];rfl
 ·obtain⟨e,w',fr,OG,D6,vY,D5⟩:=hc τ ha [c0];cases e with
  |panicked chain=>exact OG.elim
  |outgrown=>exact OG.elim
  |returned v=>
   obtain⟨n,hn⟩:=D6;exact conv S (Q:=Lm X.P f R) ⟨rfl,vY,v,D5,OG⟩ n (.inl (hinv.re τ)) hn
end
end Sim
namespace Ph
section
open Go Go.Conc Go.ConcN Sim
theorem WG.frame {P:aM} {main:Bool} {H:Blocks}:∀{F O:Blocks} {g:aq} {w:ae},WG P main Stop F O g w->(∀b,H b->b<w.heap.size)->
  WG P main (λF' O g w=>∃F,Stop F O g w/\(∀b,F' b↔F b\/H b)/\∀b,H b->b<w.heap.size) (λb=>F b\/H b) O g w:=by
 rintro F O g w ⟨r,h⟩;induction r generalizing F O g w with
 |leaf=>exact λhH=>WG.stop λw1 e=>⟨F,h w1 (e.sub λb hb=>.inl hb),λ_=>Iff.rfl,λb hb=>xll (hH b hb) e.size⟩
 |node f ih=>
  intro hH;refine WG.step h.1 λw1 e=>?_;obtain⟨F',O',g',w',es,h1,h2,h3⟩:=h.2 w1 (e.sub λb hb=>.inl hb);have WQ:∀b,H b->b<w1.heap.size:=λb hb=>xll (hH b hb) e.size;refine⟨λb=>F' b\/H b,O',g',w',es,h1,⟨λb hb=>hb.imp (h2.sub b) id,h2.NF,λb hb=>?_,h2.Au,λb hb=>.inl (h2.own b hb),h2.keep,h2.size,λb hb=>hb.elim (h2.low b) λx=>xll (WQ b x) h2.size,h2.drawn,h2.tape,h2.os,h2.output,λx hx=>?_,h2.nb⟩,ih w1 h3 λb hb=>xll (WQ b hb) h2.size⟩
  ·rcases hb with hb|hb
   ·exact(h2.new b hb).imp .inl id
   ·exact .inl (.inr hb)
  ·have:=h2.ev x hx;obtain⟨loc,wt,sy⟩:=x;cases loc with
   |cell a=>exact⟨this.1,.inl this.2.1,this.2.2⟩
   |obj r=>exact⟨this.1,.inl this.2.1,this.2.2⟩
   |mark m=>cases m<;>exact this
   |_=>exact this
theorem SQ {T:Array ag}:(results Tryz.f56 T).runT prog w #[]=(.ok (T.getD 6 ac) w,#[]):=by
 have e:Tryz.f56.results=#[.tmp 6]:=rfl;simp[results,e,go_sem]
theorem qnk {T:Array ag} {v:ag} (h:(results Tryz.f56 T).run prog w=.ok v w'):v=T.getD 6 ac:=by
 rw[<-Sem.runT_fst _ _ _ #[],SQ]at h;injection h with h _;exact h.symm
theorem q1g {fn:Func} (h:prog.funcs[f]?=some fn) (e:f=56):fn=Tryz.f56:=by
 rw[e,func56]at h;exact(xoi h).symm
def dm (db mb:Nat):Nat->Prop:=λb=>b=db\/b=mb
def rdm (db mb:Nat):Rel:=λa b=>a=b/\dm db mb a
def Ap (db mb:Nat) (m:ag) (w:ae):ae:={w with heap:=w.heap.mapIdx λb o=>if b=db then .cells #[m] 142 (0,1)else if b=mb then o else .cells #[] 0}
section
variable {db mb:Nat} {es:Array bu} {clock:Nat} {s t:ByteArray} {F0:Blocks} {w1:ae} {R:ag->ae->Prop} {ja:Blocks->ag->ae->Prop}
theorem q3p (hF:FOk F0 (λ_=>False) w1) (Hr:F0 db) (Om:F0 mb) (eB:db≠mb) (hd:w1.heap[db]?=some (.cells #[.map (some mb)] 142 (0,0))) (hm:w1.heap[mb]?=some (.map es clock)) (jA:∀(F:aC->Prop) ρ,EsR F ρ es.toList es.toList)
  (wI:∀wl,wl.heap[db]?=some (.cells #[.map (some mb)] 142 (0,1))->wl.heap[mb]?=some (.map es clock)->bU prog 56 #[.pointer (some ⟨db,0,none⟩),.string s,.string t] wl fun|.returned v,w'=>R v w'|_,_=>False)
  (hR:∀v w τ,R v (re w τ)->R v w)
  (htr:∀ρ v v' w w',R v w->VR (λf=>fbP f=true) ρ v v'->WN (XW (dm db mb)) ρ w w'->ja (rng ρ) v' w') (hmono:∀F F' v w,ja F v w->(∀b,F b->F' b)->ja F' v w) (c:am) (cs:List am):
  WG prog false (AtRet prog ja (c::cs)) F0 (λ_=>False) (G (av prog 56 #[.pointer (some ⟨db,0,none⟩),.string s,.string t] .normal) (c::cs)) w1:=by
 have S:=jkb (dm db mb);have dY:db<w1.heap.size:=(yx hd).1;have hltm:mb<w1.heap.size:=(yx hm).1;have i1:(Ap db mb (.map (some mb)) w1).heap[db]?=some (.cells #[.map (some mb)] 142 (0,1)):=by
  simp only[Ap,Array.getElem?_mapIdx,hd,cX,if_true]
 have i2:(Ap db mb (.map (some mb)) w1).heap[mb]?=some (.map es clock):=by
  simp only[Ap,Array.getElem?_mapIdx,hm,cX,if_neg (aS eB),if_true]
 have vS:WR (XW (dm db mb)) (rdm db mb) (Ap db mb (.map (some mb)) w1) w1:=by
  refine⟨λh h'=>h.1.symm.trans h'.1,λh h'=>h.1.trans h'.1.symm,λ{a b} gG=>?_,λ_ _=>rfl,λa ha=>?_⟩
  ·obtain⟨rfl,h|h⟩:=gG
   ·subst h;exact⟨_,_,i1,hd,.cells (.cons (.map ⟨rfl,.inr rfl⟩) .nil) (.inr rfl)⟩
   ·subst h;exact⟨_,_,i2,hm,.map (jA _ _)⟩
  ·rcases ha with h|h
   ·subst h;exact .inl ⟨_,_,1,i1,by simp⟩
   ·subst h;exact .inr ⟨_,_,i2⟩
 have zN:NB (Ap db mb (.map (some mb)) w1):=trivial;have iF:zi (λf=>fbP f=true) (rdm db mb) [.pointer (some ⟨db,0,none⟩),.string s,.string t] [.pointer (some ⟨db,0,none⟩),.string s,.string t]:=.cons (.ptr ⟨rfl,.inl rfl⟩) (.cons (.string s) (.cons (.string t) .nil));have hFb:(XW (dm db mb)).F 56:=by show fbP _=true;decide
 have kR:FR (XW (dm db mb)) fbP false (rdm db mb) (av prog 56 #[.pointer (some ⟨db,0,none⟩),.string s,.string t] .normal) (av prog 56 #[.pointer (some ⟨db,0,none⟩),.string s,.string t] .normal):=Sb S hFb rfl iF;have hB:Bot [av prog 56 #[.pointer (some ⟨db,0,none⟩),.string s,.string t] .normal]:=by
  intro f hf;simp at hf;subst hf;rfl
 have hinv:Inv (XW (dm db mb)) fbP false (av prog 56 #[.pointer (some ⟨db,0,none⟩),.string s,.string t] .normal) [c0] (Ap db mb (.map (some mb)) w1):=⟨rdm db mb,_,[],[],w1,rfl,kR,.nil,vS,zN,hB⟩
 have VN:=qjz S hinv hR λτ _=>wI (re (Ap db mb (.map (some mb)) w1) τ) i1 i2;have hQm:∀fr cs w,Lm prog 56 R fr cs w->∀ch,fr.mode≠.panicking ch:=λfr cs w ⟨_,_,v,h,_⟩ ch e=>by rw[h.1]at e;cases e
 have hgo:=jfh S false (c::cs) hQm VN (up:=[]) (up':=[]) rfl kR .nil (WN.of vS) zN hB;have Vz:=WG.frame (H:=F0) hgo hF.low;have eF:(λb=>rng (rdm db mb) b\/F0 b)=F0:=by
  funext b;refine propext ⟨λh=>h.elim (λ⟨a,h1,h2⟩=>?_) id,.inr⟩;subst h1;rcases h2 with rfl|rfl
  ·exact Hr
  ·exact Om
 have eO:own (XW (dm db mb)) (rdm db mb)=λ_=>False:=by
  funext b;exact propext ⟨λ⟨a,h1,h2⟩=>h2 h1.2,False.elim⟩
 rw[eF,eO]at Vz;refine WG.then Vz ?_;rintro F' O g w ⟨F,hst,kS,oI⟩;refine WG.stop λw2 e2=>?_;cases hst with
 |special _ h=>cases h
 | @done ρ fr eD up up' wl w' h1 h2 h3 h4 h5 h6=>
  obtain⟨hc,vY,v,oC,hr⟩:=h6;have ol:up=[]:=by
   have:=congrArg bQ hc;simp at this;exact ay (by simpa using this)
  subst ol;cases h2;obtain⟨l1,l2,l3,fn,l4,l5⟩:=oC;have WW:=h3.ext (e2.sub λb hb=>(kS b).2 (.inl hb));obtain rfl:=q1g l4 vY;obtain rfl:=qnk l5;have hvr:VR (λf=>fbP f=true) ρ (fr.tmps.getD 6 ac) (eD.tmps.getD 6 ac):=zi.Em h1.tmps 6;refine⟨⟨λb hb=>?_,λb hb=>?_⟩,eD.tmps.getD 6 ac,hmono _ _ _ _ (htr ρ _ _ _ _ hr hvr WW) (λb hb=>(kS b).2 (.inl hb)),rfl,λc' fZ e w3=>?_⟩
  ·rcases(kS b).1 hb with⟨a,gG⟩|hb
   ·obtain⟨τ,_,k⟩:=WW;obtain⟨o,o',_,k2,_⟩:=k.heap gG;exact(yx k2).1
   ·exact xll (oI b hb) e2.size
  ·obtain⟨a,gG,_⟩:=hb;exact(kS b).2 (.inl ⟨a,gG⟩)
  ·cases e;have m1:eD.mode=.returning:=h1.mode.trans l1;have m2:eD.defers=[]:=by
    have:=h1.defers;rw[l2]at this;generalize eD.defers=d at this;cases this;rfl
   have m3:prog.funcs[eD.fn]?=some Tryz.f56:=by
    rw[h1.fn,vY];exact func56
   show aV prog false (G eD (c::cs)) w3=_;rw[yj _ _ _ _ _ m1];obtain⟨Fg,IC,VE,FX,FD,FE,QF⟩:=eD;obtain rfl:FE=.normal:=h1.kind';obtain rfl:FX=[]:=m2;obtain rfl:FD=.returning:=m1;have m3:prog.funcs[Fg]?=some Tryz.f56:=m3;unfold unwind;dsimp only;rw[m3];dsimp only;rw[SQ];rfl
end
end
section
open Go.Conc Go.ConcN Go.RowKit Go.Conc.Lib Go.ConcR.Gen Go.ConcN.Gen Go Sim
open Go.ConcR (KK wgBlock WgAt stA smA rd wr mk Payload Aside2 DC0 ofEvent_cell)
section
variable {P:aM} {ty:cH} {Wg:Nat} {F:Blocks} {w0:ae} {Stop:aq->ae->Prop}
theorem Y0:∀(m:Nat) {g:aq} {w:ae},Goes P true (RM ty Wg F) DC0 Stop m g w->Ext F w0 w->Goes P true (RM ty Wg F) DC0 (λg w=>Stop g w/\Ext F w0 w) m g w:=by
 intro m;induction m with
 |zero=>exact λh e w1 r=>⟨h w1 r,e.trans r.ext⟩
 |succ m ih=>
  intro g w h e;rcases h with h|⟨h1,h2⟩
  ·exact .inl λw1 r=>⟨h w1 r,e.trans r.ext⟩
  ·refine .inr ⟨h1,λw1 r=>?_⟩;have:=h2 w1 r;cases hs:aV P true g w1 with
   |go g' w' es=>
    rw[hs,bz]at this;rw[bz];refine⟨this.1,ih this.2 ?_⟩;obtain⟨rfl,_⟩:=this.1;exact e.trans r.ext
   |_=>rw[hs]at this;exact this.elim
theorem MG.keep (h:MG P ty Wg F Stop g w) (e:Ext F w0 w):MG P ty Wg F (λg w=>Stop g w/\Ext F w0 w) g w:=let⟨m,h⟩:=h;⟨m,Y0 m h e⟩
theorem ZY {lQ:aq->ae->Prop} (hs:∀g w,Stop g w->lQ g w):∀(m:Nat) {g:aq} {w:ae},Goes P true (RM ty Wg F) DC0 Stop m g w->Goes P true (RM ty Wg F) DC0 lQ m g w:=by
 intro m;induction m with
 |zero=>exact λh w1 r=>hs _ _ (h w1 r)
 |succ m ih=>
  intro g w h;rcases h with h|⟨h1,h2⟩
  ·exact .inl λw1 r=>hs _ _ (h w1 r)
  ·refine .inr ⟨h1,λw1 r=>?_⟩;have:=h2 w1 r;cases hs:aV P true g w1 with
   |go g' w' es=>
    rw[hs,bz]at this;rw[bz];exact⟨this.1,ih this.2⟩
   |_=>rw[hs]at this;exact this.elim
theorem MG.mono {lQ:aq->ae->Prop} (h:MG P ty Wg F Stop g w) (hs:∀g w,Stop g w->lQ g w):MG P ty Wg F lQ g w:=let⟨m,h⟩:=h;⟨m,ZY hs m h⟩
theorem iU.keep {m:Mark} {K':aq->ae->Prop} (h:iU P m K g w) (hk:∀g,K g w->K' g w):iU P m K' g w:=
 ⟨h.1,let⟨g',h1,h2⟩:=h.2;⟨g',h1,hk _ h2⟩⟩
theorem q6d {v:ag} (hW:¬F Wg) (e:Ext F w0 w):Ext F w0 (w.setCell (stA Wg) v):=
 e.trans ⟨Nat.le_of_eq (aW w (stA Wg) v).size.symm,λb hb=>(aW w (stA Wg) v).block b λ(x:b=Wg)=>hW (by rw[<-x];exact hb)⟩
theorem Yq (hW:¬F Wg) (h:MG P ty Wg F (iU P .disable (MG P ty Wg F (vJ P ty Wg F (MG P ty Wg F K)))) g w) (e:Ext F w0 w):
  MG P ty Wg F (iU P .disable (MG P ty Wg F (vJ P ty Wg F (MG P ty Wg F (λg w=>K g w/\Ext F w0 w))))) g w:=by
 refine(h.keep e).mono λg w ⟨h1,e1⟩=>h1.keep λg h2=>(h2.keep e1).mono λg w ⟨h3,e3⟩=>⟨h3.1,λv hv hw=>?_⟩
 obtain⟨g',k1,k2⟩:=h3.2 v hv hw;have e4:Ext F w0 (w.setCell (stA Wg) (.int .u64 ((v+1)*KK))):=q6d hW e3;refine⟨g',k1,k2.imp (λ⟨a,b⟩=>⟨a,?_⟩) (λ⟨a,b⟩=>⟨a,?_⟩)⟩
 ·exact(b.keep e4).mono λg w ⟨b1,e5⟩=>b1.keep λg b2=>(b2.keep e5).mono λg w ⟨b3,e6⟩=>b3.keep λg b4=>b4.keep e6
 ·exact(b.keep e4).mono λg w ⟨b1,e5⟩=>b1.keep λg b4=>b4.keep e5
theorem Yp {K':aq->ae->Prop} (hs:∀g w,K g w->K' g w) (h:MG P ty Wg F (iU P .disable (MG P ty Wg F (vJ P ty Wg F (MG P ty Wg F K)))) g w):
  MG P ty Wg F (iU P .disable (MG P ty Wg F (vJ P ty Wg F (MG P ty Wg F K')))) g w:=
 h.mono λg w h1=>h1.keep λg h2=>h2.mono λg w h3=>⟨h3.1,λv hv hw=>by
  obtain⟨g',k1,k2⟩:=h3.2 v hv hw;refine⟨g',k1,k2.imp (λ⟨a,b⟩=>⟨a,?_⟩) (λ⟨a,b⟩=>⟨a,?_⟩)⟩
  ·exact b.mono λg w b1=>b1.keep λg b2=>b2.mono λg w b3=>b3.keep λg b4=>b4.mono hs
  ·exact b.mono λg w b1=>b1.keep λg b4=>b4.mono hs⟩
end
abbrev fS:aC:=27
def bS:am:=base fS
noncomputable def vG:Code:=Tryz.f27.body.getD .skip
noncomputable def AQ:Code:=match vG with|.seq _ (.seq _ (.seq _ (.seq _ c)))=>c|_=>.skip
noncomputable def sL:Code:=match AQ with|.seq (.seq _ (.block _ (.loop c))) _=>c|_=>.skip
noncomputable def sR:Code:=match AQ with|.seq _ c=>c|_=>.skip
noncomputable def sIn:Code:=match sL with|.seq _ (.seq _ (.seq (.block _ c) _))=>c|_=>.skip
noncomputable def rg:Code->Array Oper|.region _ ops _=>ops|_=>#[]
noncomputable def R6:Array Oper:=match sL with|.seq a _=>rg a|_=>#[]
noncomputable def R10:Array Oper:=match sL with|.seq _ (.seq _ (.seq _ a))=>rg a|_=>#[]
noncomputable def R7:Array Oper:=match sIn with|.seq a _=>rg a|_=>#[]
noncomputable def R8:Array Oper:=match sIn with|.seq _ (.seq a _)=>rg a|_=>#[]
noncomputable def R9:Array Oper:=match sIn with|.seq _ (.seq _ a)=>rg a|_=>#[]
theorem jj4:sL=.seq (.region 6 R6 false) (.seq (.cond (.tmp 19) .skip (.exit 0)) (.seq (.block 1 sIn) (.region 10 R10 false))):=rfl
theorem jfd:sIn=.seq (.region 7 R7 false) (.seq (.region 8 R8 false) (.region 9 R9 false)):=rfl
structure ScT (kb cb fb tb C Wg:Nat) (T:Array ag):Prop where
 size:T.size=42
 t4:T.getD 4 ac=.pointer (some ⟨cb,0,none⟩)
 t5:T.getD 5 ac=.pointer (some ⟨fb,0,none⟩)
 t6:T.getD 6 ac=.pointer (some ⟨tb,0,none⟩)
 t10:T.getD 10 ac=.pointer (some ⟨C,0,none⟩)
 t11:T.getD 11 ac=.pointer (some ⟨Wg,0,none⟩)
 t12:T.getD 12 ac=.pointer (some ⟨kb,0,none⟩)
section
variable {kb cb fb tb C Wg:Nat} {T:Array ag} {F:Blocks} {w:ae} {k:List Item} {cs:List am}
def clW (Wg cb kb fb tb C:Nat):ag:=.func (.func fW) #[] #[.pointer (some ⟨Wg,0,none⟩),.pointer (some ⟨cb,0,none⟩),.pointer (some ⟨kb,0,none⟩),.pointer (some ⟨fb,0,none⟩),.pointer (some ⟨tb,0,none⟩),.pointer (some ⟨C,0,none⟩)]
def T9 (Wg cb kb fb tb C:Nat) (T:Array ag):Array ag:=(T.setIfInBounds 21 (.tuple #[])).setIfInBounds 22 (clW Wg cb kb fb tb C)
def Lp (Wg cb kb fb tb C:Nat) (T:Array ag) (k:List Item) (cs:List am) (g:aq) (_:ae):Prop:=g=G (bS.at ⟨T9 Wg cb kb fb tb C T,[]⟩ (.inRegion R9 [1]::k)) cs
theorem Zd (hT:ScT kb cb fb tb C Wg T) (w:ae):Goes prog true (RM link.tWg Wg F) DC0 (Lp Wg cb kb fb tb C T k cs) 3
  (G (bS.at ((ah T []).put ((R8[0]?).bind (·.dst)) (.tuple #[])) (.inRegion R8 []::.code (.region 9 R9 false)::k)) cs) w:=by
 refine Goes.step rfl λw1 _=>?_;rw[au];simp only[bz];refine⟨⟨rfl,rfl⟩,?_⟩;refine Goes.step rfl λw2 _=>?_;rw[aA];simp only[bz];refine⟨⟨rfl,rfl⟩,?_⟩;show Goes _ _ _ _ _ 1 (G (bS.at ⟨T.setIfInBounds 21 (.tuple #[]),[]⟩ (.inRegion R9 [0,1]::k)) cs) w2;refine Goes.step rfl λw3 _=>?_;obtain⟨o,ho,dW,hd,hg⟩:∃o,R9[0]?=some o/\o.op=.makeFunc (.func fW) #[] #[.tmp 11,.tmp 4,.tmp 12,.tmp 5,.tmp 6,.tmp 10]/\o.dst=some 22/\o.guard=none:=⟨_,rfl,rfl,rfl,rfl⟩
 have dU:aa o (az R9 (ah (T.setIfInBounds 21 (.tuple #[])) []).tmps)=true:=by unfold aa;rw[hg]
 have ev:(ai (ah (T.setIfInBounds 21 (.tuple #[])) []).eval o).run prog w3=.ok (.value (clW Wg cb kb fb tb C)) w3/\(ai (ah (T.setIfInBounds 21 (.tuple #[])) []).eval o).events prog w3 #[]=#[]:=by
  have b4:(ah (T.setIfInBounds 21 (.tuple #[])) []).eval (.tmp 4)=_:=(qy (by omega)).trans hT.t4;have b5:(ah (T.setIfInBounds 21 (.tuple #[])) []).eval (.tmp 5)=_:=(qy (by omega)).trans hT.t5;have b6:(ah (T.setIfInBounds 21 (.tuple #[])) []).eval (.tmp 6)=_:=(qy (by omega)).trans hT.t6;have xN:(ah (T.setIfInBounds 21 (.tuple #[])) []).eval (.tmp 10)=_:=(qy (by omega)).trans hT.t10;have u6:(ah (T.setIfInBounds 21 (.tuple #[])) []).eval (.tmp 11)=_:=(qy (by omega)).trans hT.t11;have Fj:(ah (T.setIfInBounds 21 (.tuple #[])) []).eval (.tmp 12)=_:=(qy (by omega)).trans hT.t12;generalize (ah (T.setIfInBounds 21 (.tuple #[])) []).eval=e at*;unfold ai;constructor
  ·simp[go_sem,dW,b4,b5,b6,xN,u6,Fj,clW]
  ·simp[go_sem,dW,b4,b5,b6,xN,u6,Fj]
 rw[bd ho dU (by decide) ev.1];simp only[bz];refine⟨⟨rfl,?_⟩,?_⟩
 ·unfold listed;rw[ev.2,bF]
 ·rw[hd];exact λ_ _=>rfl
theorem atGo {Next:aq->ae->Prop} (hT:ScT kb cb fb tb C Wg T) (hg:Lp Wg cb kb fb tb C T k cs g w)
  (hs:PayAt C 4 w->Script prog link.tWg Wg C 4 ja i F (born prog (yH Wg cb kb fb tb C)) w) (hn:Next (G (bS.at ⟨T9 Wg cb kb fb tb C T,[]⟩ (.inRegion R9 []::k)) cs) w):
  AtGoM prog link.tWg Wg C 4 ja i F Next g w:=by
 obtain rfl:=hg;obtain⟨o,ho,dW,hd,Bt⟩:∃o,R9[1]?=some o/\o.op=.go {callee:=.value (.tmp 22),args:=#[],argTypes:=#[]}/\o.dst=none/\o.guard=none:=⟨_,rfl,rfl,rfl,rfl⟩
 have dU:aa o (az R9 (ah (T9 Wg cb kb fb tb C T) []).tmps)=true:=by unfold aa;rw[Bt]
 have ev:(ai (ah (T9 Wg cb kb fb tb C T) []).eval o).run prog w=.ok (.spawn (yH Wg cb kb fb tb C)) w/\(ai (ah (T9 Wg cb kb fb tb C T) []).eval o).events prog w #[]=#[]:=by
  have Xr:(ah (T9 Wg cb kb fb tb C T) []).eval (.tmp 22)=clW Wg cb kb fb tb C:=vw (by simp[hT.size]);generalize (ah (T9 Wg cb kb fb tb C T) []).eval=e at*;unfold ai;constructor
  ·simp[go_sem,dW,Xr,clW,yH,resolve,Deferred.ofValue]
  ·simp[go_sem,dW,Xr,clW,resolve,Deferred.ofValue]
 have Bj:=stepG_spawn (P:=prog) (main:=true) (b:=bS) (k:=k) (cs:=cs) (rest:=[]) ho dU (by decide) ev.1 (f:=.func fW) (c:=#[.pointer (some ⟨Wg,0,none⟩),.pointer (some ⟨cb,0,none⟩),.pointer (some ⟨kb,0,none⟩),.pointer (some ⟨fb,0,none⟩),.pointer (some ⟨tb,0,none⟩),.pointer (some ⟨C,0,none⟩)]) rfl;rw[hd]at Bj;have hl:listed prog bS.fn (ah (T9 Wg cb kb fb tb C T) []) o w=#[]:=by unfold listed;rw[ev.2,bF]
 rw[hl]at Bj;exact⟨rfl,_,_,Bj,rfl,hs,hn⟩
theorem sAdd {Next:aq->ae->Prop} (hT:ScT kb cb fb tb C Wg T) (hW:¬F Wg) (hl:WgLive link.tWg Wg w)
  (hs:∀w1,Ext F w w1->PayAt C 4 w1->Script prog link.tWg Wg C 4 ja i F (born prog (yH Wg cb kb fb tb C)) w1) (hn:∀w1,Ext F w w1->Next (G (bS.at ⟨T9 Wg cb kb fb tb C T,[]⟩ (.inRegion R9 []::k)) cs) w1):
  MG prog link.tWg Wg F (iU prog .disable (MG prog link.tWg Wg F (vJ prog link.tWg Wg F (MG prog link.tWg Wg F (AtGoM prog link.tWg Wg C 4 ja i F Next)))))
   (G (av prog 53 #[.pointer (some ⟨Wg,0,none⟩),.int .i64 1] .normal) (bS.at ⟨T,[]⟩ (.inRegion R8 [0]::.code (.region 9 R9 false)::k)::cs)) w:=by
 have h1:=add1 (F:=F) IB (K:=Lp Wg cb kb fb tb C T k cs) (b₀:=bS) (a₀:=⟨T,[]⟩) (ops₀:=R8) (i₀:=0) (rest₀:=[]) (k₀:=.code (.region 9 R9 false)::k) (cs:=cs) (λw _=>Zd hT w) w hl;have h2:=Yq hW h1 (Ext.refl F w);rw[enter_at _ func53 (show Tryz.f53.body=some (body_add link)from rfl)]
 walk_nrmf Tryz.f53
 exact Yp (λg w ⟨h,e⟩=>atGo hT h (hs w e) (hn w e)) h2
end
structure ScH (mo:ag) (cb fb tb C Wg i:Nat) (T:Array ag):Prop where
 size:T.size=42
 t4:T.getD 4 ac=.pointer (some ⟨cb,0,none⟩)
 t5:T.getD 5 ac=.pointer (some ⟨fb,0,none⟩)
 t6:T.getD 6 ac=.pointer (some ⟨tb,0,none⟩)
 t10:T.getD 10 ac=.pointer (some ⟨C,0,none⟩)
 t11:T.getD 11 ac=.pointer (some ⟨Wg,0,none⟩)
 t18:T.getD 18 ac=.int .i64 i
 t3:T.getD 3 ac=mo
theorem jjh:(prog.funcs[bS.fn]?).any (·.norace)=false:=by kernel_rfl
section
variable {mo:ag} {cb fb tb C Wg i:Nat} {T:Array ag} {F O:Blocks} {w:ae} {k:List Item} {cs:List am} {Stop:Blocks->Blocks->aq->ae->Prop}
theorem VH (hT:ScH mo cb fb tb C Wg i T) (hF:FOk F O w) {b:Bool} (hb:decide ((i:Int)<4)=b)
  (n:WG prog true Stop F O (G (bS.at ⟨T.setIfInBounds 19 (.bool b),[]⟩ (.code (if b then .skip else .exit 0)::.code (.seq (.block 1 sIn) (.region 10 R10 false))::k)) cs) w):
  WG prog true Stop F O (G (bS.at ⟨T,[]⟩ (.code sL::k)) cs) w:=by
 rw[jj4];refine WG.ctl rfl hF (λw1=>aD) ?_;refine WG.ctl rfl hF (λw1=>aA) ?_;change WG _ _ _ _ _ (G (bS.at ⟨T,[]⟩ (.inRegion R6 [0]::_)) cs) w;obtain⟨o,ho,dW,hd,hg⟩:∃o,R6[0]?=some o/\o.op=.binOp .lss 3 (.tmp 18) (.const (.int .i64 4)) 3/\o.dst=some 19/\o.guard=none:=⟨_,rfl,rfl,rfl,rfl⟩
 have dU:aa o (az R6 (ah T []).tmps)=true:=by unfold aa;rw[hg]
 refine WG.value (.bool b) hF ho dU (by decide) (λw1 _=>?_) ?_
 ·have xL:(ah T []).eval (.tmp 18)=.int .i64 i:=hT.t18;have bc:(ah T []).eval (.const (.int .i64 4))=.int .i64 4:=rfl;generalize (ah T []).eval=e at*;unfold ai;constructor
  ·simp[go_sem,dW,xL,bc,hb]
  ·simp[go_sem,dW,xL,bc]
 rw[hd];change WG _ _ _ _ _ (G (bS.at ⟨T.setIfInBounds 19 (.bool b),[]⟩ (.inRegion R6 []::_)) cs) w;refine WG.ctl rfl hF (λw1=>au) ?_;refine WG.ctl rfl hF (λw1=>aD) ?_;have hc:(ah (T.setIfInBounds 19 (.bool b)) []).eval (.tmp 19)=.bool b:=vw (by rw[hT.size];omega);exact WG.ctl rfl hF (λw1=>stepG_cond hc) n
def grown (w:ae):ae:={w with heap:=w.heap.push (.cells #[.int .i64 0] 3)}
theorem UA (dW:o.op=.alloc 3) (w:ae):(ai e o).run prog w=.ok (.value (.pointer (some ⟨w.heap.size,0,none⟩))) (grown w)/\(ai e o).events prog w #[]=#[]:=by
 unfold ai;constructor
 ·simp[go_sem,dW,grown,Instr.alloc]
 ·simp[go_sem,dW,Instr.alloc]
theorem jfe {x y:cw} {n:Int} {u:ag} (dW:o.op=.store 3 x y) (hx:e x=.pointer (some ad)) (hy:e y=.int .i64 n) {w:ae} (hc:w.cell? ad=some u) (hz:w.frozen? ad=false):
  (ai e o).run prog w=.ok .skip (w.setCell ad (.int .i64 n))/\(ai e o).events prog w #[]=#[⟨.cell ad,true,false⟩]:=by
 unfold ai;simp only[dW,hx,hy];constructor
 ·simp[go_sem,stored,hc,hz]
 ·simp[go_sem,storedEv,hc,hz]
theorem M5 {w:ae}:(grown w).heap.size=w.heap.size+1:=by
 show(w.heap.push _).size=_;rw[Array.size_push]
theorem RQ (hF:FOk F O w):tJ F O w (λb=>F b\/b=w.heap.size) (λb=>O b\/b=w.heap.size) (grown w) #[]:=
 ⟨λ_ h=>.inl h,λ_ h=>.inl h,λb h=>h.imp id (λe=>by rw[e];exact ji _),λb h=>h.imp id (λe=>by rw[e];exact ji _),λb h=>h.imp (hF.own b) id,λb hb _=>by
  show(w.heap.push _)[b]?=_;rw[aj,if_neg (Nat.ne_of_lt hb)],by rw[M5];omega,
  λb h=>by
   rw[M5];rcases h with h|h
   ·exact Nat.lt_succ_of_lt (hF.low b h)
   ·omega,⟨0,rfl⟩,rfl,rfl,rfl,by simp,NB.push λ_ _ e=>by cases e⟩
theorem qt1:(grown w).cell? ⟨w.heap.size,0,none⟩=some (.int .i64 0)/\(grown w).frozen? ⟨w.heap.size,0,none⟩=false:=by
 have h:(grown w).heap[w.heap.size]?=some (.cells #[.int .i64 0] 3):=by
  show(w.heap.push _)[_]?=_;rw[aj,if_pos rfl]
 constructor
 ·simp[aG,h]
 ·simp[cg,h]
theorem Uz {w:ae} {v:ag} (hF:FOk F O w) (hk:O kb):tJ F O w F O (w.setCell ⟨kb,0,none⟩ v) #[⟨.cell ⟨kb,0,none⟩,true,false⟩]:=by
 have hA:=aW w ⟨kb,0,none⟩ v;refine⟨λ_ h=>h,λ_ h=>h,λ_ h=>.inl h,λ_ h=>.inl h,hF.own,λb _ hb=>hA.block b λ(e:b=kb)=>hb (e▸hk),Nat.le_of_eq hA.size.symm,λb h=>by rw[hA.size];exact hF.low b h,⟨0,?_⟩,hA.tape,hA.os,hA.output,λe he=>?_,λ_=>trivial⟩
 ·unfold World.setCell;rfl
 ·rw[Array.mem_singleton]at he;subst he;exact⟨rfl,hF.own _ hk,λ_=>hk⟩
def T7 (i kb:Nat) (T:Array ag):Array ag:=((T.setIfInBounds 19 (.bool true)).setIfInBounds 20 (.int .i64 i)).setIfInBounds 12 (.pointer (some ⟨kb,0,none⟩))
theorem TB {F O F' O':Blocks} {w:ae} {es:Array Event} (h:tJ F O w F' O' w' es):FOk F' O' w':=⟨h.low,h.own⟩
theorem jj5 (hT:ScH mo cb fb tb C Wg i T) (hF:FOk F O w)
  (n:∀(kb:Nat) (w3:ae),Ext F w w3->w.heap.size<=kb->w3.cell? ⟨kb,0,none⟩=some (.int .i64 i)->FOk (λb=>F b\/b=kb) (λb=>O b\/b=kb) w3->WG prog true Stop (λb=>F b\/b=kb) (λb=>O b\/b=kb)
   (G (bS.at ⟨T7 i kb T,[]⟩ (.inRegion R8 [0]::.code (.region 9 R9 false)::k)) cs) w3):
  WG prog true Stop F O (G (bS.at ⟨T.setIfInBounds 19 (.bool true),[]⟩ (.code sIn::k)) cs) w:=by
 rw[jfd];refine WG.ctl rfl hF (λw1=>aD) ?_;refine WG.ctl rfl hF (λw1=>aA) ?_;change WG _ _ _ _ _ (G (bS.at ⟨T.setIfInBounds 19 (.bool true),[]⟩ (.inRegion R7 [0,1,2]::_)) cs) w;obtain⟨o,ho,dW,hd,hg⟩:∃o,R7[0]?=some o/\o.op=.move (.tmp 18)/\o.dst=some 20/\o.guard=none:=⟨_,rfl,rfl,rfl,rfl⟩
 have dU:aa o (az R7 (ah (T.setIfInBounds 19 (.bool true)) []).tmps)=true:=by unfold aa;rw[hg]
 refine WG.value (.int .i64 i) hF ho dU (by decide) (λw1 _=>?_) ?_
 ·have xL:(ah (T.setIfInBounds 19 (.bool true)) []).eval (.tmp 18)=.int .i64 i:=(qy (by omega)).trans hT.t18;generalize (ah (T.setIfInBounds 19 (.bool true)) []).eval=e at*;unfold ai;constructor
  ·simp[go_sem,dW,xL]
  ·simp[go_sem,dW,xL]
 rw[hd];change WG _ _ _ _ _ (G (bS.at ⟨(T.setIfInBounds 19 (.bool true)).setIfInBounds 20 (.int .i64 i),[]⟩ (.inRegion R7 [1,2]::_)) cs) w;obtain⟨o1,vT,iY,hd1,kE⟩:∃o,R7[1]?=some o/\o.op=.alloc 3/\o.dst=some 12/\o.guard=none:=⟨_,rfl,rfl,rfl,rfl⟩
 have Ct:aa o1 (az R7 (ah ((T.setIfInBounds 19 (.bool true)).setIfInBounds 20 (.int .i64 i)) []).tmps)=true:=by unfold aa;rw[kE]
 refine WG.step rfl λw1 e1=>?_;have xK:=hF.ext e1;have hs:=bd (P:=prog) (main:=true) (b:=bS) (k:=.code (.seq (.region 8 R8 false) (.region 9 R9 false))::k) (cs:=cs) (rest:=[2]) vT Ct (by decide) (UA iY w1).1;have hl:listed prog bS.fn (ah ((T.setIfInBounds 19 (.bool true)).setIfInBounds 20 (.int .i64 i)) []) o1 w1=#[]:=by unfold listed;rw[(UA iY w1).2,bF]
 rw[hl,hd1]at hs;refine⟨_,_,_,_,_,hs,RQ xK,?_⟩;have WU:=TB (RQ xK);change WG _ _ _ _ _ (G (bS.at ⟨T7 i w1.heap.size T,[]⟩ (.inRegion R7 [2]::_)) cs) (grown w1);obtain⟨o2,su,Ag,Oy,iH⟩:∃o,R7[2]?=some o/\o.op=.store 3 (.tmp 12) (.tmp 20)/\o.dst=none/\o.guard=none:=⟨_,rfl,rfl,rfl,rfl⟩
 have LH:aa o2 (az R7 (ah (T7 i w1.heap.size T) []).tmps)=true:=by unfold aa;rw[iH]
 have Fj:(ah (T7 i w1.heap.size T) []).eval (.tmp 12)=.pointer (some ⟨w1.heap.size,0,none⟩):=vw (by simp[hT.size]);have b20:(ah (T7 i w1.heap.size T) []).eval (.tmp 20)=.int .i64 i:=(qy (by omega)).trans (vw (by simp[hT.size]));refine WG.step rfl λw2 e2=>?_;have jK:w2.cell? ⟨w1.heap.size,0,none⟩=some (.int .i64 0)/\w2.frozen? ⟨w1.heap.size,0,none⟩=false:=by
  have h:=e2.keep w1.heap.size (.inr rfl);obtain⟨g1,g2⟩:=qt1 (w:=w1);unfold aG at g1⊢;unfold cg at g2⊢;rw[h];exact⟨g1,g2⟩
 have hst:=jfe (e:=(ah (T7 i w1.heap.size T) []).eval) Ag Fj b20 jK.1 jK.2;have sj:=stepG_none (P:=prog) (main:=true) (b:=bS) (k:=.code (.seq (.region 8 R8 false) (.region 9 R9 false))::k) (cs:=cs) (rest:=[]) su LH (by decide) hst.1;have oZ:listed prog bS.fn (ah (T7 i w1.heap.size T) []) o2 w2=#[⟨.cell ⟨w1.heap.size,0,none⟩,true,false⟩]:=by
  unfold listed;rw[hst.2];exact seen_eq jjh (by simp)
 rw[oZ,Oy]at sj;refine⟨_,_,_,_,_,sj,Uz (WU.ext e2) (.inr rfl),?_⟩;have Dv:=TB (Uz (v:=.int .i64 i) (WU.ext e2) (.inr rfl:(λb=>O b\/b=w1.heap.size) w1.heap.size));change WG _ _ _ _ _ (G (bS.at ⟨T7 i w1.heap.size T,[]⟩ (.inRegion R7 []::_)) cs) _;refine WG.ctl rfl Dv (λw1=>au) ?_;refine WG.ctl rfl Dv (λw1=>aD) ?_;refine WG.ctl rfl Dv (λw1=>aA) ?_;change WG _ _ _ _ _ (G (bS.at ⟨T7 i w1.heap.size T,[]⟩ (.inRegion R8 [0]::_)) cs) _;refine n w1.heap.size _ ?_ e1.size ?_ Dv
 ·refine e1.trans ⟨?_,λb hb=>?_⟩
  ·have:=e2.size;rw[(aW w2 ⟨w1.heap.size,0,none⟩ (.int .i64 i)).size];rw[M5]at this;omega
  ·have dY:=xK.low b hb;rw[(aW w2 ⟨w1.heap.size,0,none⟩ (.int .i64 i)).block b (λ(e:b=w1.heap.size)=>by omega),e2.keep b (.inl hb)];show(w1.heap.push _)[b]?=_;rw[aj,if_neg (Nat.ne_of_lt dY)]
 ·have h0:w2.heap[w1.heap.size]?=some (.cells #[.int .i64 0] 3 (0,0)):=by
   rw[e2.keep _ (.inr rfl)];show(w1.heap.push _)[_]?=_;rw[aj,if_pos rfl]
  have hb:(w2.setCell ⟨w1.heap.size,0,none⟩ (.int .i64 i)).heap[w1.heap.size]?=some (.cells (#[.int .i64 0].setIfInBounds 0 (.int .i64 i)) 3):=by
   rw[setCell_eq_setRow w2 w1.heap.size 0 #[.int .i64 0] _ (0,0) _ h0,setRow_heap w2 w1.heap.size _ _ _ _ h0]
  simp[aG,hb]
end
section
variable {mo:ag} {cb fb tb C Wg:Nat} {k:List Item} {cs:List am} {ja:Nat->Blocks->ag->ae->Prop} {K:aq->ae->Prop}
theorem jj6 {T:Array ag} (hi:i<4) (hT:ScH mo cb fb tb C Wg i T) (hF:FOk F O w)
  (n:∀T',ScH mo cb fb tb C Wg (i+1) T'->WG prog true Stop F O (G (bS.at ⟨T',[]⟩ (.code sL::.inLoop sL::k)) cs) w):
  WG prog true Stop F O (G (bS.at ⟨T9 Wg cb kb fb tb C (T7 i kb T),[]⟩ (.inRegion R9 []::.inBlock 1::.code (.region 10 R10 false)::.inLoop sL::k)) cs) w:=by
 refine WG.ctl rfl hF (λw1=>au) ?_;refine WG.ctl rfl hF (λw1=>cj) ?_;refine WG.ctl rfl hF (λw1=>aA) ?_;have eU:(T9 Wg cb kb fb tb C (T7 i kb T)).size=42:=by simp[T9,T7,hT.size]
 have g:∀j,j≠12->j≠19->j≠20->j≠21->j≠22->(T9 Wg cb kb fb tb C (T7 i kb T)).getD j ac=T.getD j ac:=λj a b c d e=>by
  unfold T9 T7;rw[qy (aS e),qy (aS d),qy (aS a),qy (aS c),qy (aS b)]
 have g4:=(g 4 (by decide) (by decide) (by decide) (by decide) (by decide)).trans hT.t4;have g5:=(g 5 (by decide) (by decide) (by decide) (by decide) (by decide)).trans hT.t5;have g6:=(g 6 (by decide) (by decide) (by decide) (by decide) (by decide)).trans hT.t6;have g10:=(g 10 (by decide) (by decide) (by decide) (by decide) (by decide)).trans hT.t10;have g11:=(g 11 (by decide) (by decide) (by decide) (by decide) (by decide)).trans hT.t11;have g3:=(g 3 (by decide) (by decide) (by decide) (by decide) (by decide)).trans hT.t3;have g18:=(g 18 (by decide) (by decide) (by decide) (by decide) (by decide)).trans hT.t18;generalize T9 Wg cb kb fb tb C (T7 i kb T)=U at*;change WG _ _ _ _ _ (G (bS.at ⟨U,[]⟩ (.inRegion R10 [0,1]::_)) cs) w;obtain⟨o,ho,dW,hd,hg⟩:∃o,R10[0]?=some o/\o.op=.binOp .add 3 (.tmp 18) (.const (.int .i64 1)) 3/\o.dst=some 23/\o.guard=none:=⟨_,rfl,rfl,rfl,rfl⟩
 have dU:aa o (az R10 (ah U []).tmps)=true:=by unfold aa;rw[hg]
 refine WG.value (.int .i64 ((i+1:Nat):Int)) hF ho dU (by decide) (λw1 _=>?_) ?_
 ·have xL:(ah U []).eval (.tmp 18)=.int .i64 i:=g18;have bc:(ah U []).eval (.const (.int .i64 1))=.int .i64 1:=rfl;have nQ:IntKind.i64.wrap ((i:Int)+1)=((i+1:Nat):Int):=by rw[IntKind.wrap_i64];omega
  generalize (ah U []).eval=e at*;unfold ai;constructor
  ·simp[go_sem,dW,xL,bc,nQ]
  ·simp[go_sem,dW,xL,bc]
 rw[hd];change WG _ _ _ _ _ (G (bS.at ⟨U.setIfInBounds 23 (.int .i64 ((i+1:Nat):Int)),[]⟩ (.inRegion R10 [1]::_)) cs) w;obtain⟨o1,vT,iY,hd1,kE⟩:∃o,R10[1]?=some o/\o.op=.move (.tmp 23)/\o.dst=some 18/\o.guard=none:=⟨_,rfl,rfl,rfl,rfl⟩
 have Ct:aa o1 (az R10 (ah (U.setIfInBounds 23 (.int .i64 ((i+1:Nat):Int))) []).tmps)=true:=by unfold aa;rw[kE]
 refine WG.value (.int .i64 ((i+1:Nat):Int)) hF vT Ct (by decide) (λw1 _=>?_) ?_
 ·have Xq:(ah (U.setIfInBounds 23 (.int .i64 ((i+1:Nat):Int))) []).eval (.tmp 23)=.int .i64 ((i+1:Nat):Int):=vw (by rw[eU];omega);generalize (ah (U.setIfInBounds 23 (.int .i64 ((i+1:Nat):Int))) []).eval=e at*;unfold ai;constructor
  ·simp[go_sem,iY,Xq]
  ·simp[go_sem,iY,Xq]
 rw[hd1];change WG _ _ _ _ _ (G (bS.at ⟨(U.setIfInBounds 23 (.int .i64 ((i+1:Nat):Int))).setIfInBounds 18 (.int .i64 ((i+1:Nat):Int)),[]⟩ (.inRegion R10 []::_)) cs) w;refine WG.ctl rfl hF (λw1=>au) ?_;refine WG.ctl rfl hF (λw1=>stepG_inLoop) ?_;refine n _ ⟨by simp[eU],?_,?_,?_,?_,?_,?_,?_⟩
 ·rw[qy (by decide),qy (by decide)];exact g4
 ·rw[qy (by decide),qy (by decide)];exact g5
 ·rw[qy (by decide),qy (by decide)];exact g6
 ·rw[qy (by decide),qy (by decide)];exact g10
 ·rw[qy (by decide),qy (by decide)];exact g11
 ·exact vw (by simp[eU])
 ·rw[qy (by decide),qy (by decide)];exact g3
theorem FJ {T:Array ag} (a:j≠12) (b:j≠19) (c:j≠20):(T7 i kb T).getD j ac=T.getD j ac:=by
 unfold T7;rw[qy (aS a),qy (aS c),qy (aS b)]
theorem ScH.t7 {T:Array ag} (hT:ScH mo cb fb tb C Wg i T):ScT kb cb fb tb C Wg (T7 i kb T):=
 ⟨by simp[T7,hT.size],(FJ (by decide) (by decide) (by decide)).trans hT.t4,(FJ (by decide) (by decide) (by decide)).trans hT.t5,(FJ (by decide) (by decide) (by decide)).trans hT.t6,(FJ (by decide) (by decide) (by decide)).trans hT.t10,
  (FJ (by decide) (by decide) (by decide)).trans hT.t11,by unfold T7;exact vw (by simp[hT.size])⟩
theorem starter {Fx:Blocks->ae->Prop} (hx:∀F w w1,Fx F w->Ext F w w1->Fx F w1) (hxm:∀F F' w,Fx F w->(∀b,F b->F' b)->Fx F' w)
  (hs:∀i:Nat,i<4->∀F w kb,Fx F w->FOk F (λ_=>False) w->F kb->w.cell? ⟨kb,0,none⟩=some (.int .i64 i)->Script prog link.tWg Wg C 4 ja i F (born prog (yH Wg cb kb fb tb C)) w)
  (h0:∀F O w T,ScH mo cb fb tb C Wg 4 T->FOk F O w->Fx F w->¬F Wg->WG prog true (Scr prog link.tWg Wg C 4 ja K 0) F O (G (bS.at ⟨T,[]⟩ (.code sL::.inLoop sL::k)) cs) w):
  ∀r i,i+r=4->∀T F O w,ScH mo cb fb tb C Wg i T->FOk F O w->Fx F w->¬F Wg->Wg<w.heap.size->WG prog true (Scr prog link.tWg Wg C 4 ja K r) F O (G (bS.at ⟨T,[]⟩ (.code sL::.inLoop sL::k)) cs) w:=by
 intro r;induction r with
 |zero=>
  intro i hi T F O w hT hF hX hW _;obtain rfl:i=4:=by omega
  exact h0 F O w T hT hF hX hW
 |succ r ih=>
  intro i hi T F O w hT hF hX hW dY;have xI:i<4:=by omega
  refine VH hT hF (b:=true) (xdt (by omega)) ?_;refine WG.ctl rfl hF (λw1=>dh) ?_;refine WG.ctl rfl hF (λw1=>aD) ?_;refine WG.ctl rfl hF (λw1=>bB) ?_;refine jj5 hT hF λkb w3 e3 iG jK Dv=>?_;obtain⟨o,ho,dW,hd,hg⟩:∃o,R8[0]?=some o/\o.op=.call {callee:=.value (.func 53),args:=#[.tmp 11,.const (.int .i64 1)],argTypes:=#[122,3]}/\o.dst=some 21/\o.guard=none:=⟨_,rfl,rfl,rfl,rfl⟩
  have dU:aa o (az R8 (ah (T7 i kb T) []).tmps)=true:=by unfold aa;rw[hg]
  have ev:∀w1,(ai (ah (T7 i kb T) []).eval o).run prog w1=.ok (.enter 53 #[.pointer (some ⟨Wg,0,none⟩),.int .i64 1]) w1/\(ai (ah (T7 i kb T) []).eval o).events prog w1 #[]=#[]:=λw1=>by
   have u6:(ah (T7 i kb T) []).eval (.tmp 11)=.pointer (some ⟨Wg,0,none⟩):=(hT.t7 (kb:=kb)).t11;have bc:(ah (T7 i kb T) []).eval (.const (.int .i64 1))=.int .i64 1:=rfl;have bf:(ah (T7 i kb T) []).eval (.func 53)=.func (.func 53) #[] #[]:=rfl;generalize (ah (T7 i kb T) []).eval=e at*;unfold ai;constructor
   ·simp[go_sem,dW,u6,bc,bf]
   ·simp[go_sem,dW,u6,bc,bf];simp[de,go_sem,func53,Tryz.f53]
  refine WG.quiet rfl Dv λw4 e4=>⟨_,0,_,bT ho dU (by decide) (ev w4).1,λe' he=>?_,?_⟩
  ·have:=bq he;rw[(ev w4).2]at this;simp at this
  refine WG.stop λw5 e5=>⟨rfl,λhl=>?_⟩
  have WH:Fx (λb=>F b\/b=kb) w5:=hx _ _ _ (hx _ _ _ (hxm F _ _ (hx _ _ _ hX e3) (λb hb=>.inl hb)) e4) e5;have E9:¬(λb=>F b\/b=kb) Wg:=λh=>h.elim hW λe=>by omega
  have hF5:=(Dv.ext e4).ext e5;have hc5:w5.cell? ⟨kb,0,none⟩=some (.int .i64 i):=(vO (a:=⟨kb,0,none⟩) ((e4.trans e5).keep kb (.inr rfl))).trans jK;have PX:Wg<w5.heap.size:=xll (xll dY e3.size) (xlt e4.size e5.size);have OJ:FOk (λb=>F b\/b=kb) (λ_=>False) w5:=⟨hF5.low,λ_ h=>h.elim⟩
  have e0:4-(r+1)=i:=by omega
  rw[e0];exact sAdd hT.t7 E9 hl (λw6 e6 _=>hs i xI _ w6 kb (hx _ _ _ WH e6) (OJ.ext e6) (.inr rfl) ((vO (a:=⟨kb,0,none⟩) (e6.keep kb (.inr rfl))).trans hc5))
   (λw6 e6=>jj6 xI hT (OJ.ext e6) λT' uY=>ih (i+1) (by omega) T' _ _ w6 uY (OJ.ext e6) (hx _ _ _ WH e6) E9 (xll PX e6.size))
end
section
variable {P:aM} {ty:cH} {Wg:Nat} {F:Blocks} {A K K':aq->ae->Prop}
theorem Cm.mono (hk:∀g w,K g w->K' g w) (h:Cm P ty Wg F K g w):Cm P ty Wg F K' g w:=
 MG.mono h λ_ _ h1=>h1.keep λ_ h2=>MG.mono h2 λ_ _ h3=>h3.keep λ_ h4=>hk _ _ h4
theorem Cn.mono (hk:∀g w,K g w->K' g w) (h:Cn P ty Wg F K g w):Cn P ty Wg F K' g w:=
 ⟨h.1,λhw=>let⟨g',a,b⟩:=h.2 hw;⟨g',a,Cm.mono hk b⟩⟩
theorem wQ.mono (hk:∀g w,K g w->K' g w) (h:wQ P ty Wg F K g w):wQ P ty Wg F K' g w:=
 ⟨h.1,h.2.1,h.2.2.1,λhw=>let⟨g',a,b⟩:=h.2.2.2 hw;⟨g',a,MG.mono b λ_ _ h=>Cn.mono hk h⟩⟩
theorem Cq.mono (hk:∀g w,K g w->K' g w) {vs:Nat} (h:Cq P ty Wg F A K vs g w):Cq P ty Wg F A K' vs g w:=
 ⟨h.1,λv hv hw=>⟨λe=>let⟨g',a,b⟩:=(h.2 v hv hw).1 e;⟨g',a,MG.mono b λ_ _ h=>h.keep λ_ h=>MG.mono h λ_ _ h=>wQ.mono hk h⟩,(h.2 v hv hw).2⟩⟩
theorem qB.mono (hk:∀g w,K g w->K' g w) (h:qB P ty Wg F A K g w):qB P ty Wg F A K' g w:=
 ⟨h.1,λv hv hw=>let⟨g',a,b,c⟩:=h.2 v hv hw;⟨g',a,λe=>Cm.mono hk (b e),λe=>MG.mono (c e) λ_ _ h=>Cq.mono hk h⟩⟩
end
noncomputable def sT:Code:=match sR with|.seq _ c=>c|_=>.skip
noncomputable def R11:Array Oper:=match sR with|.seq a _=>rg a|_=>#[]
theorem jj7:sR=.seq (.region 11 R11 false) sT:=rfl
section
variable {mo:ag} {cb fb tb C Wg:Nat} {k:List Item} {cs:List am} {ja:Nat->Blocks->ag->ae->Prop}
def Behind (mo:ag) (cb fb tb C Wg:Nat) (k:List Item) (cs:List am) (T0:Array ag) (g:aq) (_:ae):Prop:=g=G (bS.at ⟨T0.setIfInBounds 24 (.tuple #[]),[]⟩ (.code sT::k)) cs/\ScH mo cb fb tb C Wg 4 T0
def KS (mo:ag) (cb fb tb C Wg:Nat) (k:List Item) (cs:List am) (g:aq) (w:ae):Prop:= ∃F T,MG prog link.tWg Wg F (Behind mo cb fb tb C Wg k cs T) g w
theorem jka {T0:Array ag} (zW:ScH mo cb fb tb C Wg 4 T0) (hF:FOk F O w):
  WG prog true (Scr prog link.tWg Wg C 4 ja (KS mo cb fb tb C Wg k cs) 0) F O (G (bS.at ⟨T0,[]⟩ (.code sL::.inLoop sL::.inBlock 0::.code sR::k)) cs) w:=by
 refine VH zW hF (b:=false) (zu (by decide)) ?_;refine WG.ctl rfl hF (λw1=>stepG_exit rfl) ?_;rw[jj7];refine WG.ctl rfl hF (λw1=>aD) ?_;refine WG.ctl rfl hF (λw1=>aA) ?_;have hT:ScH mo cb fb tb C Wg 4 (T0.setIfInBounds 19 (.bool false)):=⟨by simp[zW.size],(qy (by decide)).trans zW.t4,(qy (by decide)).trans zW.t5,(qy (by decide)).trans zW.t6,(qy (by decide)).trans zW.t10,(qy (by decide)).trans zW.t11,(qy (by decide)).trans zW.t18,(qy (by decide)).trans zW.t3⟩
 change WG _ _ _ _ _ (G (bS.at ⟨T0.setIfInBounds 19 (.bool false),[]⟩ (.inRegion R11 [0]::_)) cs) w;generalize T0.setIfInBounds 19 (.bool false)=T at*;obtain⟨o,ho,dW,hd,hg⟩:∃o,R11[0]?=some o/\o.op=.call {callee:=.value (.func 57),args:=#[.tmp 11],argTypes:=#[122]}/\o.dst=some 24/\o.guard=none:=⟨_,rfl,rfl,rfl,rfl⟩
 have dU:aa o (az R11 (ah T []).tmps)=true:=by unfold aa;rw[hg]
 have ev:∀w1,(ai (ah T []).eval o).run prog w1=.ok (.enter 57 #[.pointer (some ⟨Wg,0,none⟩)]) w1/\(ai (ah T []).eval o).events prog w1 #[]=#[]:=λw1=>by
  have u6:(ah T []).eval (.tmp 11)=.pointer (some ⟨Wg,0,none⟩):=hT.t11;have bf:(ah T []).eval (.func 57)=.func (.func 57) #[] #[]:=rfl;generalize (ah T []).eval=e at*;unfold ai;constructor
  ·simp[go_sem,dW,u6,bf]
  ·simp[go_sem,dW,u6,bf];simp[de,go_sem,func57,Tryz.f57]
 refine WG.quiet rfl hF λw4 e4=>⟨_,0,_,bT ho dU (by decide) (ev w4).1,λe' he=>?_,?_⟩
 ·have:=bq he;rw[(ev w4).2]at this;simp at this
 refine WG.stop λw5 e5=>⟨rfl,λhl=>?_⟩
 refine⟨Anch link Wg (bS.at ⟨T,[]⟩ (.inRegion R11 [0]::.code sT::k)) cs,λg w h=>by obtain⟨T,rfl,_⟩:=h;rfl,λg w h=>?_,?_⟩
 ·have h1:=waitRound (F:=F) IB (K:=Behind mo cb fb tb C Wg k cs T) (mT:=1) (b₀:=bS) (a₀:=⟨T,[]⟩) (ops₀:=R11) (i₀:=0) (rest₀:=[]) (k₀:=.code sT::k) (cs:=cs) (λw _=>by
   refine Goes.step rfl λw1 _=>?_;rw[au];simp only[bz]
   exact⟨⟨rfl,rfl⟩,λ_ _=>⟨rfl,hT⟩⟩) g w h
  exact MG.mono h1 λg w h=>qB.mono (λg w h=>⟨F,T,h⟩) h
 ·have h2:=waitStart (F:=F) (cs:=cs) IB (c:=bS.at ⟨T,[]⟩ (.inRegion R11 [0]::.code sT::k)) w5 hl;rw[enter_at _ func57 (show Tryz.f57.body=some (body_wait link)from rfl)]
  walk_nrmf Tryz.f57
  exact h2
end
theorem qs9 {mo:ag} {fb C Wg o L0:Nat} {a:aq} {w0:ae} {D:Nat->WX} {FM:Blocks}
  (hJ:Joined prog o Wg C 4 SB ja (KS mo cb fb tb C Wg k cs) L0 w0 gs a w t D FM q):
  ∃(N:Nat) (eX:Array aq) (T:Array ag) (d:Nat) (sl':Option (Nat×Nat)) (t':bo) (q':Nat->Nat),runNT prog N (crowd gs w sl) t=(.next (crowd eX (w.at d) sl'),t')/\eX.size=gs.size/\
   eX[0]?=some (G (bS.at ⟨T.setIfInBounds 24 (.tuple #[]),[]⟩ (.code sT::k)) cs)/\ScH mo cb fb tb C Wg 4 T/\bp prog t' eX q'/\jD (λb=>SB b\/b=Wg) (w.at d) eX.size t':=by
 obtain⟨F,T,m,hg⟩:=hJ.k;obtain⟨N,eX,a',d,sl',t',q',h1,h2,h3,⟨h4,h5⟩,h6,h7⟩:=qtd (P:=prog) (SB:=λb=>SB b\/b=Wg) (R:=RM link.tWg Wg F) (Stop:=Behind mo cb fb tb C Wg k cs T) (λw d=>⟨⟨ji _,λ_ _=>rfl⟩,id⟩) (λg w h=>by rw[h.1];rfl) m gs a w sl t q hJ.main hJ.leavers hJ.past hg;subst h4;exact⟨N,eX,T,d,sl',t',q',h1,h2,h3,h5,h6,h7⟩
end
section
open Go Go.Conc Go.ConcN Sim
section
variable {X:Cx} {Fb:aC->Bool} {sp:aC->Bool}
theorem q9a (pJ:X.P'=X.P) (S:X.Set Fb true sp) {v:ag} (fI:nk X.P X.P' Fb true o=true) (he:EvR X.F Fb ρ e e) (hw:WR X ρ w w) (hr:(ai e o).run X.P w=.ok (.value v) w1):
  ∃ρ1,ρ.le ρ1/\WR X ρ1 w1 w1/\VR X.F ρ1 v v/\tJ (rng ρ) (own X ρ) w (rng ρ1) (own X ρ1) w1 ((ai e o).events X.P w #[])/\(NB w->NB w1):=by
 have hs:=SS.execOp S.ok true S.wrs o fI e e he;obtain⟨ρ1,a',gD,gL,h1,h2,h3,h4,h5,h6,h7⟩:=hs.1 w w _ w1 #[] hw hr;rw[pJ]at h1;have e1:=congrArg Prod.fst h1;rw[Sem.runT_fst,hr]at e1;have e1:(Result.ok (Next.value v) w1:Result Next)=.ok a' gD:=e1;injection e1 with ea ew;subst ea;subst ew;have ee:(ai e o).events X.P w #[]=gL:=by
  have:=congrArg Prod.snd h1;simpa[Sem.runT_eq]using this
 cases h6 with
 |value hv=>exact⟨ρ1,h3.le,h2,hv,by rw[ee];exact Gf hw h3 h2 h5,λ_=>trivial⟩
end
end
section
open Go.Conc Go.ConcN Go.RowKit Go.Conc.Lib Go.ConcR.Gen Go.ConcN.Gen Go Sim
open Go.ConcR (KK wgBlock WgAt stA smA rd wr mk Payload Aside2 DC0 ofEvent_cell)
def wU (w:ae):ae:={w with heap:=w.heap.push (wgBlock link.tWg 0 0)}
theorem QT (dW:o.op=.alloc 122) (w:ae):(ai e o).run prog w=.ok (.value (.pointer (some ⟨w.heap.size,0,none⟩))) (wU w)/\(ai e o).events prog w #[]=#[]:=by
 unfold ai;constructor
 ·simp[go_sem,dW,wU,Instr.alloc,wgBlock]
 ·simp[go_sem,dW,Instr.alloc]
theorem YZ:WgAt link.tWg w.heap.size (wU w) 0 0:=by
 show(w.heap.push _)[_]?=_;rw[aj,if_pos rfl]
noncomputable def R4:Array Oper:=match vG with|.seq _ (.seq _ (.seq _ (.seq a _)))=>rg a|_=>#[]
theorem qt0 {a:Act} (h0:gs[0]?=some (G (bS.at a (.inRegion R4 [0]::k)) cs)) (hL:bp prog t gs q) (hP:jD SB w gs.size t):
  ∃(eX:Array aq) (d:Nat) (sl':Option (Nat×Nat)) (t':bo) (q':Nat->Nat),Runs prog gs w sl t eX (wU (w.at d)) sl' t'/\eX.size=gs.size/\eX[0]?=some (G (bS.at (a.put (some 11) (.pointer (some ⟨w.heap.size,0,none⟩))) (.inRegion R4 []::k)) cs)/\
   bp prog t' eX q'/\jD SB (wU (w.at d)) eX.size t'/\WgAt link.tWg w.heap.size (wU (w.at d)) 0 0/\∀x:Addr,x.block=w.heap.size->pz t' (.cell x):=by
 obtain⟨o,ho,dW,hd,hg⟩:∃o,R4[0]?=some o/\o.op=.alloc 122/\o.dst=some 11/\o.guard=none:=⟨_,rfl,rfl,rfl,rfl⟩
 have dU:aa o (az R4 a.tmps)=true:=by unfold aa;rw[hg]
 have hs:∀d,aV prog true (G (bS.at a (.inRegion R4 [0]::k)) cs) (w.at d)=.go (G (bS.at (a.put (some 11) (.pointer (some ⟨w.heap.size,0,none⟩))) (.inRegion R4 []::k)) cs) (wU (w.at d)) #[]:=λd=>by
  have hl:listed prog bS.fn a o (w.at d)=#[]:=by unfold listed;rw[(QT dW _).2,bF]
  have:=bd (P:=prog) (main:=true) (b:=bS) (k:=k) (cs:=cs) (rest:=[]) ho dU (by decide) (QT (e:=a.eval) dW (w.at d)).1;rw[hl,hd]at this;exact this
 have eU:∀d,(wU (w.at d)).heap.size=w.heap.size+1:=λd=>by
  show(w.heap.push _).size=_;rw[Array.size_push]
 obtain⟨N,eX,a',d,w',es,sl',t',q',h1,h2,h3,h4,h5,h6,h7⟩:=CV (P:=prog) (SB:=SB) (sl:=sl) h0 rfl hL hP λd=>⟨_,_,_,hs d,by rw[eU];exact Nat.le_succ _,by simp⟩
 rw[hs d]at h2;injection h2 with e1 e2 e3;subst e1;subst e2;subst e3;refine⟨eX,d,sl',t',q',⟨N,h1⟩,h3,h4,h5,h6,YZ (w:=w.at d),λx hx=>h7 _ (TP (B:=w.heap.size) (λop dW=>hP.seen op dW) (by omega)) (by simp)⟩
end
section
open Go Go.Conc Go.ConcN Sim
section
variable {P:aM} {b:am} {a:Act} {k:List Item} {cs fZ:List am} {ops:Array Oper} {i:Nat} {rest:List Nat} {o:Oper} {fr j5 eD:am}
theorem Sil.ctl (h:∀w,aV P true (G fr cs) w=.go (G j5 cs) w #[]) (n:Sil P j5 cs eD fZ):Sil P fr cs eD fZ:=.step h n
theorem Sil.value (v:ag) (ho:ops[i]?=some o) (hw:aa o (az ops a.tmps)=true) (hk:b.kind≠.early)
  (hr:∀w,(ai a.eval o).run P w=.ok (.value v) w/\(ai a.eval o).events P w #[]=#[])
  (n:Sil P (b.at (a.put o.dst v) (.inRegion ops rest::k)) cs eD fZ):Sil P (b.at a (.inRegion ops (i::rest)::k)) cs eD fZ:=
 .step (λw=>by
  rw[bd ho hw hk (hr w).1];unfold listed
  rw[(hr w).2,bF]) n
end
noncomputable def R12:Array Oper:=match sT with|.seq a _=>rg a|_=>#[]
noncomputable def sT2:Code:=match sT with|.seq _ c=>c|_=>.skip
noncomputable def R13:Array Oper:=match sT2 with|.seq (.seq a _) _=>rg a|_=>#[]
noncomputable def tL:Code:=match sT2 with|.seq (.seq _ (.block _ (.loop c))) _=>c|_=>.skip
noncomputable def tE:Code:=match sT2 with|.seq _ c=>c|_=>.skip
theorem jj9:sT=.seq (.region 12 R12 false) sT2:=rfl
theorem jff:sT2=.seq (.seq (.region 13 R13 false) (.block 2 (.loop tL))) tE:=rfl
noncomputable def tIn:Code:=match tL with|.seq _ (.seq _ (.seq (.block _ c) _))=>c|_=>.skip
noncomputable def R14:Array Oper:=match tL with|.seq a _=>rg a|_=>#[]
noncomputable def R17:Array Oper:=match tL with|.seq _ (.seq _ (.seq _ a))=>rg a|_=>#[]
noncomputable def R15:Array Oper:=match tIn with|.seq a _=>rg a|_=>#[]
noncomputable def R16:Array Oper:=match tIn with|.seq _ a=>rg a|_=>#[]
noncomputable def R18:Array Oper:=match tE with|.seq a _=>rg a|_=>#[]
theorem jkd:tL=.seq (.region 14 R14 false) (.seq (.cond (.tmp 27) .skip (.exit 2)) (.seq (.block 3 tIn) (.region 17 R17 false))):=rfl
theorem jfr:tIn=.seq (.region 15 R15 false) (.region 16 R16 false):=rfl
theorem jkc:tE=.seq (.region 18 R18 false) .ret:=rfl
section
variable {T:Array ag} {k:List Item} {cs:List am}
theorem jkg:Sil prog (bS.at ⟨T,[]⟩ (.code sT::k)) cs (bS.at ⟨T.setIfInBounds 13 (.slice none 0 0),[]⟩ (.inRegion R13 [0,1]::.code (.block 2 (.loop tL))::.code tE::k)) cs:=by
 rw[jj9];refine Sil.ctl (λw1=>aD) ?_;refine Sil.ctl (λw1=>aA) ?_;change Sil _ (bS.at ⟨T,[]⟩ (.inRegion R12 [0]::_)) _ _ _;obtain⟨o,ho,dW,hd,hg⟩:∃o,R12[0]?=some o/\o.op=.assign (.const (.slice none 0 0))/\o.dst=some 13/\o.guard=none:=⟨_,rfl,rfl,rfl,rfl⟩
 have dU:aa o (az R12 (ah T []).tmps)=true:=by unfold aa;rw[hg]
 refine Sil.value (.slice none 0 0) ho dU (by decide) (λw=>?_) ?_
 ·have bc:(ah T []).eval (.const (.slice none 0 0))=.slice none 0 0:=rfl;generalize (ah T []).eval=e at*;unfold ai;constructor
  ·simp[go_sem,dW,bc]
  ·simp[go_sem,dW,bc]
 rw[hd];change Sil _ (bS.at ⟨T.setIfInBounds 13 (.slice none 0 0),[]⟩ (.inRegion R12 []::_)) _ _ _;refine Sil.ctl (λw1=>au) ?_;rw[jff];refine Sil.ctl (λw1=>aD) ?_;refine Sil.ctl (λw1=>aD) ?_;refine Sil.ctl (λw1=>aA) ?_;exact Sil.refl _ _
theorem VF (eU:T.size=42) (OP:T.getD 26 ac=.int .i64 i) {b:Bool} (hb:decide ((i:Int)<4)=b):
  Sil prog (bS.at ⟨T,[]⟩ (.code tL::k)) cs (bS.at ⟨T.setIfInBounds 27 (.bool b),[]⟩ (.code (if b then .skip else .exit 2)::.code (.seq (.block 3 tIn) (.region 17 R17 false))::k)) cs:=by
 rw[jkd];refine Sil.ctl (λw1=>aD) ?_;refine Sil.ctl (λw1=>aA) ?_;change Sil _ (bS.at ⟨T,[]⟩ (.inRegion R14 [0]::_)) _ _ _;obtain⟨o,ho,dW,hd,hg⟩:∃o,R14[0]?=some o/\o.op=.binOp .lss 3 (.tmp 26) (.const (.int .i64 4)) 3/\o.dst=some 27/\o.guard=none:=⟨_,rfl,rfl,rfl,rfl⟩
 have dU:aa o (az R14 (ah T []).tmps)=true:=by unfold aa;rw[hg]
 refine Sil.value (.bool b) ho dU (by decide) (λw1=>?_) ?_
 ·have BH:(ah T []).eval (.tmp 26)=.int .i64 i:=OP;have bc:(ah T []).eval (.const (.int .i64 4))=.int .i64 4:=rfl;generalize (ah T []).eval=e at*;unfold ai;constructor
  ·simp[go_sem,dW,BH,bc,hb]
  ·simp[go_sem,dW,BH,bc]
 rw[hd];change Sil _ (bS.at ⟨T.setIfInBounds 27 (.bool b),[]⟩ (.inRegion R14 []::_)) _ _ _;refine Sil.ctl (λw1=>au) ?_;refine Sil.ctl (λw1=>aD) ?_;have hc:(ah (T.setIfInBounds 27 (.bool b)) []).eval (.tmp 27)=.bool b:=vw (by rw[eU];omega);exact Sil.ctl (λw1=>stepG_cond hc) (Sil.refl _ _)
theorem tEnd {v:ag} (eU:T.size=42) (KM:T.getD 13 ac=v):
  Sil prog (bS.at ⟨T,[]⟩ (.code tE::k)) cs {bS.at ⟨((T.setIfInBounds 41 v).setIfInBounds 8 v).setIfInBounds 9 (.int .i64 0),[]⟩ (.code .ret::k)with mode:=.returning} cs:=by
 rw[jkc];refine Sil.ctl (λw1=>aD) ?_;refine Sil.ctl (λw1=>aA) ?_;change Sil _ (bS.at ⟨T,[]⟩ (.inRegion R18 [0,1,2]::_)) _ _ _;obtain⟨o,ho,dW,hd,hg⟩:∃o,R18[0]?=some o/\o.op=.move (.tmp 13)/\o.dst=some 41/\o.guard=none:=⟨_,rfl,rfl,rfl,rfl⟩
 have dU:aa o (az R18 (ah T []).tmps)=true:=by unfold aa;rw[hg]
 refine Sil.value v ho dU (by decide) (λw1=>?_) ?_
 ·have xM:(ah T []).eval (.tmp 13)=v:=KM;generalize (ah T []).eval=e at*;unfold ai;constructor
  ·simp[go_sem,dW,xM]
  ·simp[go_sem,dW,xM]
 rw[hd];change Sil _ (bS.at ⟨T.setIfInBounds 41 v,[]⟩ (.inRegion R18 [1,2]::_)) _ _ _;obtain⟨o1,vT,iY,hd1,kE⟩:∃o,R18[1]?=some o/\o.op=.assign (.tmp 41)/\o.dst=some 8/\o.guard=none:=⟨_,rfl,rfl,rfl,rfl⟩
 have Ct:aa o1 (az R18 (ah (T.setIfInBounds 41 v) []).tmps)=true:=by unfold aa;rw[kE]
 refine Sil.value v vT Ct (by decide) (λw1=>?_) ?_
 ·have Xd:(ah (T.setIfInBounds 41 v) []).eval (.tmp 41)=v:=vw (by rw[eU];omega);generalize (ah (T.setIfInBounds 41 v) []).eval=e at*;unfold ai;constructor
  ·simp[go_sem,iY,Xd]
  ·simp[go_sem,iY,Xd]
 rw[hd1];change Sil _ (bS.at ⟨(T.setIfInBounds 41 v).setIfInBounds 8 v,[]⟩ (.inRegion R18 [2]::_)) _ _ _;obtain⟨o2,su,Ag,Oy,iH⟩:∃o,R18[2]?=some o/\o.op=.assign (.const (.int .i64 0))/\o.dst=some 9/\o.guard=none:=⟨_,rfl,rfl,rfl,rfl⟩
 have LH:aa o2 (az R18 (ah ((T.setIfInBounds 41 v).setIfInBounds 8 v) []).tmps)=true:=by unfold aa;rw[iH]
 refine Sil.value (.int .i64 0) su LH (by decide) (λw1=>?_) ?_
 ·have bc:(ah ((T.setIfInBounds 41 v).setIfInBounds 8 v) []).eval (.const (.int .i64 0))=.int .i64 0:=rfl;generalize (ah ((T.setIfInBounds 41 v).setIfInBounds 8 v) []).eval=e at*;unfold ai;constructor
  ·simp[go_sem,Ag,bc]
  ·simp[go_sem,Ag,bc]
 rw[Oy];change Sil _ (bS.at ⟨((T.setIfInBounds 41 v).setIfInBounds 8 v).setIfInBounds 9 (.int .i64 0),[]⟩ (.inRegion R18 []::_)) _ _ _;refine Sil.ctl (λw1=>au) ?_;exact Sil.ctl (λw1=>rfl) (Sil.refl _ _)
theorem jkf (hi:i<4) (eU:T.size=42) (OP:T.getD 26 ac=.int .i64 i):
  Sil prog (bS.at ⟨T,[]⟩ (.inRegion R16 []::.inBlock 3::.code (.region 17 R17 false)::.inLoop tL::k)) cs (bS.at ⟨(T.setIfInBounds 40 (.int .i64 ((i+1:Nat):Int))).setIfInBounds 26 (.int .i64 ((i+1:Nat):Int)),[]⟩ (.code tL::.inLoop tL::k)) cs:=by
 refine Sil.ctl (λw1=>au) ?_;refine Sil.ctl (λw1=>cj) ?_;refine Sil.ctl (λw1=>aA) ?_;change Sil _ (bS.at ⟨T,[]⟩ (.inRegion R17 [0,1]::_)) _ _ _;obtain⟨o,ho,dW,hd,hg⟩:∃o,R17[0]?=some o/\o.op=.binOp .add 3 (.tmp 26) (.const (.int .i64 1)) 3/\o.dst=some 40/\o.guard=none:=⟨_,rfl,rfl,rfl,rfl⟩
 have dU:aa o (az R17 (ah T []).tmps)=true:=by unfold aa;rw[hg]
 refine Sil.value (.int .i64 ((i+1:Nat):Int)) ho dU (by decide) (λw1=>?_) ?_
 ·have BH:(ah T []).eval (.tmp 26)=.int .i64 i:=OP;have bc:(ah T []).eval (.const (.int .i64 1))=.int .i64 1:=rfl;have nQ:IntKind.i64.wrap ((i:Int)+1)=((i+1:Nat):Int):=by rw[IntKind.wrap_i64];omega
  generalize (ah T []).eval=e at*;unfold ai;constructor
  ·simp[go_sem,dW,BH,bc,nQ]
  ·simp[go_sem,dW,BH,bc]
 rw[hd];change Sil _ (bS.at ⟨T.setIfInBounds 40 (.int .i64 ((i+1:Nat):Int)),[]⟩ (.inRegion R17 [1]::_)) _ _ _;obtain⟨o1,vT,iY,hd1,kE⟩:∃o,R17[1]?=some o/\o.op=.move (.tmp 40)/\o.dst=some 26/\o.guard=none:=⟨_,rfl,rfl,rfl,rfl⟩
 have Ct:aa o1 (az R17 (ah (T.setIfInBounds 40 (.int .i64 ((i+1:Nat):Int))) []).tmps)=true:=by unfold aa;rw[kE]
 refine Sil.value (.int .i64 ((i+1:Nat):Int)) vT Ct (by decide) (λw1=>?_) ?_
 ·have Xe:(ah (T.setIfInBounds 40 (.int .i64 ((i+1:Nat):Int))) []).eval (.tmp 40)=.int .i64 ((i+1:Nat):Int):=vw (by rw[eU];omega);generalize (ah (T.setIfInBounds 40 (.int .i64 ((i+1:Nat):Int))) []).eval=e at*;unfold ai;constructor
  ·simp[go_sem,iY,Xe]
  ·simp[go_sem,iY,Xe]
 rw[hd1];change Sil _ (bS.at ⟨(T.setIfInBounds 40 (.int .i64 ((i+1:Nat):Int))).setIfInBounds 26 (.int .i64 ((i+1:Nat):Int)),[]⟩ (.inRegion R17 []::_)) _ _ _;refine Sil.ctl (λw1=>au) ?_;exact Sil.ctl (λw1=>stepG_inLoop) (Sil.refl _ _)
end
def BGo (cs:List am) (fr:am) (w:ae) (SB:Blocks) (Z:am->ae->Prop):Prop:=
 ∀(d:Nat) (gs:Array aq) (sl:Option (Nat×Nat)) (t:bo) (q:Nat->Nat),gs[0]?=some (G fr cs)->bp prog t gs q->jD SB (w.at d) gs.size t->
  ∃(eX:Array aq) (eD:am) (w':ae) (sl':Option (Nat×Nat)) (t':bo) (q':Nat->Nat),Runs prog gs (w.at d) sl t eX w' sl' t'/\eX.size=gs.size/\Z eD w'/\eX[0]?=some (G eD cs)/\bp prog t' eX q'/\jD SB w' eX.size t'
def TH (T:Array ag) (l:List (Nat×ag)):Prop:=T.size=42/\∀p∈l,T.getD p.1 ac=p.2
theorem TH.sub {T:Array ag} (h:TH T l) (hs:∀p∈l',p∈l):TH T l':=⟨h.1,λp hp=>h.2 p (hs p hp)⟩
theorem TH.set {T:Array ag} (h:TH T l) {d:Nat} (v:ag) (hd:d<42) (hs:∀p∈l',p∈l/\p.1≠d):TH (T.setIfInBounds d v) ((d,v)::l'):=by
 refine⟨by simp[h.1],λp hp=>?_⟩;rcases aE.1 hp with rfl|hp
 ·exact vw (by rw[h.1];exact hd)
 ·exact(qy (aS (hs p hp).2)).trans (h.2 p (hs p hp).1)
section
variable {cs:List am} {fr j5:am} {w:ae} {SB:Blocks} {Z:am->ae->Prop} {k:List Item} {T:Array ag}
theorem BGo.done (h:∀d,Z fr (w.at d)):BGo cs fr w SB Z:=λd gs sl t q h0 hL hP=>⟨gs,fr,w.at d,sl,t,q,⟨0,rfl⟩,rfl,h d,h0,hL,hP⟩
theorem BGo.sil (hs:Sil prog fr cs j5 cs) (n:BGo cs j5 w SB Z):BGo cs fr w SB Z:=λd gs sl t q h0 hL hP=>by
 obtain⟨lK,d1,jC,t1,q1,h1,h2,h3,h4,h5⟩:=hs.runs (SB:=SB) (sl:=sl) h0 hL hP;obtain⟨rE,iJ,w2,qJ,t2,q2,k1,k2,k3,k4,k5,k6⟩:=n d1 lK jC t1 q1 h3 h4 h5;exact⟨rE,iJ,w2,qJ,t2,q2,h1.trans k1,k2.trans h2,k3,k4,k5,k6⟩
theorem BGo.one (eG:(G fr cs).status=.running) (hs:∀d,∃j5 w1 es,aV prog true (G fr cs) (w.at d)=.go (G j5 cs) w1 es/\w.heap.size<=w1.heap.size/\(∀e∈es,EvZ SB w1.heap.size e)/\BGo cs j5 w1 SB Z):BGo cs fr w SB Z:=λd gs sl t q h0 hL hP=>by
 obtain⟨N,lK,a1,d1,w1,es,jC,t1,q1,hr,hgo,hz,o8,uf,tZ,_⟩:=CV (P:=prog) (SB:=SB) (sl:=sl) h0 eG hL hP λd=>let⟨j5,w1,es,h1,h2,h3,_⟩:=hs d;⟨_,_,_,h1,h2,h3⟩;obtain⟨j5,gD,iD,h1,h2,h3,n⟩:=hs d1;rw[show(w.at d).at d1=w.at d1 from rfl]at hgo;rw[h1]at hgo;injection hgo with e1 e2 e3;subst e1;subst e2;subst e3;obtain⟨rE,iJ,w2,qJ,t2,q2,k1,k2,k3,k4,k5,k6⟩:=n gD.drawn lK jC t1 q1 o8 uf tZ;exact⟨rE,iJ,w2,qJ,t2,q2,Runs.trans ⟨N,hr⟩ k1,k2.trans hz,k3,k4,k5,k6⟩
theorem BGo.val {rest:List Nat} (hT:TH T l) {d:Nat} (v:ag) (ho:ops[i]?=some o) (oJ:o.dst=some d) (hg:o.guard=none) (hd:d<42) (hs:∀p∈l',p∈l/\p.1≠d)
  (hr:∀e:cw->ag,(∀p∈l,e (.tmp p.1)=p.2)->(∀c,e (.const c)=c)->∀w,(ai e o).run prog w=.ok (.value v) w/\(ai e o).events prog w #[]=#[])
  (n:∀T',TH T' ((d,v)::l')->BGo cs (bS.at ⟨T',[]⟩ (.inRegion ops rest::k)) w SB Z):BGo cs (bS.at ⟨T,[]⟩ (.inRegion ops (i::rest)::k)) w SB Z:=by
 have dU:aa o (az ops (ah T []).tmps)=true:=by unfold aa;rw[hg]
 have ev:=hr (ah T []).eval (λp hp=>hT.2 p hp) (λ_=>rfl);refine BGo.sil (Sil.value v ho dU (by decide) ev (.refl _ _)) ?_;rw[oJ];exact n _ (hT.set v hd hs)
end
theorem U9 {e:Event} (h:EvF F O e) (ha:∀b,F b->¬SB b) (hB:∀b,F b->b<B):EvZ SB B e:=⟨I6 h ha hB,λ_ hy=>(L9 h hy).1⟩
def nU (F:Blocks) (w:ae) (v:ag) (n:Nat) (xs:List ag):Prop:=
 xs.length=n*2/\((v=.slice none 0 0/\n=0)\/∃g cap cur,v=.slice (some ⟨g,0,none⟩) n cap/\F g/\w.heap[g]?=some (.cells cur 74 (0,0))/\n<=cap/\cap<=bh/\cur.toList.take (n*2)=xs/\∀x∈cur.toList,∃s,x=.string s)
theorem nU.ext {v:ag} (h:nU F w v n xs) (k:∀b,F b->w1.heap[b]?=w.heap[b]?):nU F w1 v n xs:=by
 refine⟨h.1,h.2.imp id ?_⟩;rintro⟨g,cap,cur,h1,h2,h3,h4⟩;exact⟨g,cap,cur,h1,h2,(k g h2).trans h3,h4⟩
structure TlS (ρ0:Rel) (w0:ae) (SB:Blocks) (n:Nat) (xs:List ag) (ov:ag) (ρ:Rel) (w:ae):Prop where
 le:ρ0.le ρ
 wr:WR XG ρ w w
 vr:VR XG.F ρ ov ov
 nb:NB w
 own:w.ownsRow w0.heap.size 74 2 ov n xs
 keep:∀b,b<w0.heap.size->w.heap[b]?=w0.heap[b]?
 size:w0.heap.size<=w.heap.size
 apart:∀b,rng ρ b->¬SB b
 os:w.os=w0.os
 output:w.output=w0.output
theorem TlS.at {ρ0:Rel} {w0:ae} {ov:ag} (h:TlS ρ0 w0 SB n xs ov ρ w) (d:Nat):TlS ρ0 w0 SB n xs ov ρ (w.at d):=
 ⟨h.le,⟨h.wr.fn,h.wr.inj,h.wr.heap,λ_ _=>rfl,h.wr.sh⟩,h.vr,h.nb,h.own,h.keep,h.size,h.apart,h.os,h.output⟩
theorem q3o:∃i,prog.info? 74=some i/\i.zero=some (.agg #[.string ⟨#[]⟩,.string ⟨#[]⟩])/\i.size=2/\i.bytes=32:=by
 have h:(prog.info? 74).map (λi=>(i.zero,i.size,i.bytes))=some (some (.agg #[.string ⟨#[]⟩,.string ⟨#[]⟩]),2,32):=by kernel_rfl
 obtain⟨i,h1,h2⟩:=aJ.1 h;injection h2 with h2 h3;injection h3 with h3 h4;exact⟨i,h1,h2,h3,h4⟩
def BZ (v x:ag):cw->ag
 |.tmp 29=>v
 |.tmp 38=>x
 |.const c=>c
 |_=>ac
theorem qkw {P:aM} {t e ty:cH} {i:TypeInfo} (ht:P.underlying t=some (.slice e)) (hi:P.info? e=some i) {base:Nat} {v:ag} {size:Nat} (h:w.ownsRow base e size v n xs):
  (aF #[t,t] ty #[v,.slice none 0 0]).run P w=.ok v w:=by
 rcases h.2 with⟨rfl,rfl⟩|⟨g,cap,cur,rfl,h1,h2,h3,h4,h5,h6⟩
 ·simp[aF,bi ht,sizeOf,typeInfo,hi,bk,aK,loadCells,loadCellsFrom]
 ·simp[aF,bi ht,sizeOf,typeInfo,hi,bk,aK,loadCells,loadCellsFrom,storeCells,h3]
section
variable {cs:List am} {SB:Blocks} {Z:am->ae->Prop} {k:List Item} {T:Array ag} {ρ0 ρ:Rel} {w0 w:ae} {n:Nat} {xs:List ag} {ov:ag}
theorem q98 {lv:ag} {m kk:Nat} {r:List ag} (h:TlS ρ0 w0 SB n xs ov ρ w) {Gb:Blocks} (hG:∀b,Gb b->b<w0.heap.size/\ρ0 b b) (oC:lv=.slice sa m c) (hr:nU Gb w0 lv m r) (oD:kk<=m) (Bz:∀b,SB b->b<w0.heap.size) (hn:n+kk<=1073741824)
  (hT:TH T l) (h29:(29,ov)∈l) (h38:(38,.slice sa kk c)∈l) (uR:∀p∈l',p∈l/\p.1≠39/\p.1≠13)
  (nx:∀T' pE ρ' w',TlS ρ0 w0 SB (n+kk) (xs++r.take (kk*2)) pE ρ' w'->TH T' ((13,pE)::l')->BGo cs (bS.at ⟨T',[]⟩ (.inRegion R16 []::k)) w' SB Z):
  BGo cs (bS.at ⟨T,[]⟩ (.inRegion R16 [10,11]::k)) w SB Z:=by
 obtain⟨o,ho,dW,hd,hg⟩:∃o,R16[10]?=some o/\o.op=.call {callee:=.builtin .append,args:=#[.tmp 29,.tmp 38],argTypes:=#[47,47]}/\o.dst=some 39/\o.guard=none:=⟨_,rfl,rfl,rfl,rfl⟩
 have fI:nk XG.P XG.P' fb true o=true:=by
  have:R16[10]?.any (nk prog prog fb true)=true:=by kernel_rfl
  rw[ho]at this;exact this
 obtain⟨i,hi,hz,hs,hb⟩:=q3o;have hu:prog.underlying 47=some (.slice 74):=underlying47;have dU:aa o (az R16 (ah T []).tmps)=true:=by unfold aa;rw[hg]
 have e29:(ah T []).eval (.tmp 29)=ov:=hT.2 _ h29;have e38:(ah T []).eval (.tmp 38)=.slice sa kk c:=hT.2 _ h38;have lN:ai (ah T []).eval o=ai (BZ ov (.slice sa kk c)) o:=by
  unfold ai;simp only[dW,bH,aX,cx,e29,e38,BZ,resolve]
 refine BGo.one rfl λd=>?_;have oF:=h.at d
 -- what it Qs
 have eG:∃v' w',(aF #[47,47] o.type #[ov,.slice sa kk c]).run prog (w.at d)=.ok v' w'/\w'.ownsRow w0.heap.size 74 2 v' (n+kk) (xs++r.take (kk*2))/\(w.at d).grownBy w' ov.ownBlock:=by
  rcases hr.2 with⟨e,rfl⟩|⟨g,cap,cur,e,h1,h2,h3,h4,h5,h6⟩
  ·obtain rfl:kk=0:=by omega
   rw[oC]at e;injection e with e1 e2 e3;subst e1;subst e3;refine⟨ov,w.at d,qkw hu hi oF.own,?_,⟨rfl,rfl,rfl,ji _,λ_ _ _=>rfl⟩⟩;simpa using oF.own
  ·rw[oC]at e;injection e with e1 e2 e3;subst e1;subst e3;obtain⟨v',w',k1,k2,k3,_⟩:=run_append_own (P:=prog) (w.at d) w0.heap.size 47 o.type 74 i (.agg #[.string ⟨#[]⟩,.string ⟨#[]⟩]) 2 32 hu hi hz hs hb rfl (by decide) ov n xs oF.own ⟨g,0,none⟩ kk c (r.take (kk*2))
    (by rw[aU,hr.1];omega)
    (λj u hj=>by
     have jO:j<kk*2:=by
      have:=(bw.1 hj).1;rw[aU]at this;omega
     rw[aY jO]at hj;rw[<-h5,aY (by omega)]at hj;have hgh:w.heap[g]?=some (.cells cur 74 (0,0)):=(h.keep g (hG g h1).1).trans h2;have ea:(⟨g,0,none⟩:Addr).add j=⟨g,j,none⟩:=by rw[Addr.add_lit,cz]
     rw[ea];show w.cell? ⟨g,j,none⟩=some u;simp only[aG,hgh]
     simpa using hj)
    (λu hu=>by
     have hm:u∈cur.toList:=by
      have:=aO hu;rw[<-h5]at this;exact aO this
     obtain⟨s,rfl⟩:=h6 u hm
     rfl)
    (by unfold bh;omega) (by omega) oF.size
   exact⟨v',w',k1,k2,k3⟩
 obtain⟨v',w',k1,k2,k3⟩:=eG;have VO:(ai (BZ ov (.slice sa kk c)) o).run XG.P (w.at d)=.ok (.value v') w':=by
  unfold ai;show Sem.run prog _ _=_;simp only[dW,resolve,invoke,builtin,Sem.run_bind,Sem.run_pure,Result.andThen_ok,bH,aX,cx,BZ,k1]
 have hvx:VR XG.F ρ (.slice sa kk c) (.slice sa kk c):=by
  rcases hr.2 with⟨e,_⟩|⟨g,cap,cur,e,h1,_⟩
  ·rw[oC]at e;injection e with e1 e2 e3;subst e1;exact .j6 _ _
  ·rw[oC]at e;injection e with e1 e2 e3;subst e1;exact .slice (h.le _ _ (hG g h1).2)
 have lX:EvR XG.F fb ρ (BZ ov (.slice sa kk c)) (BZ ov (.slice sa kk c)):=by
  refine⟨λx hx=>?_,λ_=>rfl⟩;unfold BZ;split
  ·exact h.vr
  ·exact hvx
  ·exact Jy (λ_ h=>h) _ hx
  ·exact Er
 obtain⟨ρ1,m1,m2,m3,m4,m5⟩:=q9a rfl Nj fI lX oF.wr VO;have zU:∀b,rng ρ1 b->¬SB b:=λb hb hs=>by
  rcases m4.new b hb with h1|h1
  ·exact h.apart b h1 hs
  ·have:=Bz b hs;have h2:w.heap.size<=b:=h1;have:=h.size;omega
 have hst:=bd (P:=prog) (main:=true) (b:=bS) (k:=k) (cs:=cs) (rest:=[11]) (a:=ah T []) (w:=w.at d) ho dU (by decide) (by rw[lN];exact VO);have uY:TlS ρ0 w0 SB (n+kk) (xs++r.take (kk*2)) v' ρ1 w':=by
  refine⟨Rel.le_trans h.le m1,m2,m3,m5 h.nb,k2,λb hb=>?_,xlt h.size k3.size,zU,k3.os.trans h.os,k3.output.trans h.output⟩;refine(k3.block b (xll hb h.size) λe=>?_).trans (h.keep b hb);have:=(h.own.lt b e.symm).1;omega
 refine⟨_,w',_,hst,k3.size,λe he=>?_,?_⟩
 ·have:=bq he;rw[lN]at this;exact U9 (m4.ev e this) zU m4.low
 ·rw[hd];have hTs:TH (T.setIfInBounds 39 v') ((39,v')::l'):=hT.set v' (by decide) λp hp=>⟨(uR p hp).1,(uR p hp).2.1⟩
  change BGo cs (bS.at ⟨T.setIfInBounds 39 v',[]⟩ (.inRegion R16 [11]::k)) w' SB Z;obtain⟨o1,vT,iY,hd1,kE⟩:∃o,R16[11]?=some o/\o.op=.assign (.tmp 39)/\o.dst=some 13/\o.guard=none:=⟨_,rfl,rfl,rfl,rfl⟩
  refine BGo.val hTs v' vT hd1 kE (by decide) (l':=l') (λp hp=>⟨.tail _ hp,(uR p hp).2.2⟩) (λe he hc w=>?_) λT1 KL=>nx T1 v' ρ1 w' uY KL;have Xf:=he (39,v') (.head _);unfold ai;constructor
  ·simp[go_sem,iY,Xf]
  ·simp[go_sem,iY,Xf]
end
section
variable {cs:List am} {SB:Blocks} {Z:am->ae->Prop} {k:List Item} {T:Array ag} {w:ae} {ov lv:ag} {fs:Array ag} {most:Int}
theorem jfs (hi:i<4) (hv:fs[i]?=some lv) (hT:TH T [(13,ov),(25,.agg fs),(26,.int .i64 i),(3,.int .i64 most)])
  (n:∀T',TH T' [(15,lv),(13,ov),(25,.agg fs),(26,.int .i64 i),(3,.int .i64 most)]->BGo cs (bS.at ⟨T',[]⟩ (.code (.region 16 R16 false)::k)) w SB Z):
  BGo cs (bS.at ⟨T,[]⟩ (.code tIn::k)) w SB Z:=by
 rw[jfr];refine BGo.sil (Sil.ctl (λw1=>aD) (Sil.ctl (λw1=>aA) (.refl _ _))) ?_;change BGo cs (bS.at ⟨T,[]⟩ (.inRegion R15 [0,1]::_)) _ _ _;obtain⟨o150,jio,UU,Iz,jh9⟩:∃o,R15[0]?=some o/\o.op=.index 112 (.tmp 25) (.tmp 26)/\o.dst=some 28/\o.guard=none:=⟨_,rfl,rfl,rfl,rfl⟩
 refine BGo.val hT (lv) jio Iz jh9 (by decide) (l':=[(13,ov),(25,.agg fs),(26,.int .i64 i),(3,.int .i64 most)]) (by simp) (λe he hc w=>?_) λT hT=>?_
 ·have BH:=he (26,.int .i64 i) (by simp);have Xp:=he (25,.agg fs) (by simp);unfold ai;constructor
  ·simp[go_sem,UU,BH,Xp,hv,Instr.index,part];try(intro h4;omega)
  ·simp[go_sem,UU,BH,Xp,hv,Instr.index,part];try(intro h4;omega)
 obtain⟨o151,jip,UR,Iy,jia⟩:∃o,R15[1]?=some o/\o.op=.assign (.tmp 28)/\o.dst=some 15/\o.guard=none:=⟨_,rfl,rfl,rfl,rfl⟩
 refine BGo.val hT (lv) jip Iy jia (by decide) (l':=[(13,ov),(25,.agg fs),(26,.int .i64 i),(3,.int .i64 most)]) (by simp) (λe he hc w=>?_) λT hT=>?_
 ·have Xo:=he (28,lv) (by simp);unfold ai;constructor
  ·simp[go_sem,UR,Xo]
  ·simp[go_sem,UR,Xo]
 refine BGo.sil (Sil.ctl (λw1=>au) (.refl _ _)) ?_;exact n T hT
theorem tCut {m nn kk:Nat} {oa:Option Addr} {oc:Nat} (oC:lv=.slice sa m c) (zK:ov=.slice oa nn oc) (h0:(nn:Int)<=most) (h1:most<=9223372036854775807) (oD:(kk:Int)=if most-nn<m then most-nn else m) (Wq:m<=c)
  (hT:TH T [(15,lv),(13,ov),(25,.agg fs),(26,.int .i64 i),(3,.int .i64 most)])
  (n:∀T',TH T' [(38,.slice sa kk c),(29,ov),(25,.agg fs),(26,.int .i64 i),(3,.int .i64 most)]->BGo cs (bS.at ⟨T',[]⟩ (.inRegion R16 [10,11]::k)) w SB Z):
  BGo cs (bS.at ⟨T,[]⟩ (.code (.region 16 R16 false)::k)) w SB Z:=by
 subst oC;subst zK;have hkm:kk<=m:=by split at oD<;>omega
 have xH:kk<=c:=by omega
 have nQ:IntKind.i64.wrap (most-nn)=most-nn:=by rw[IntKind.wrap_i64];omega
 refine BGo.sil (Sil.ctl (λw1=>aA) (.refl _ _)) ?_;change BGo cs (bS.at ⟨T,[]⟩ (.inRegion R16 [0,1,2,3,4,5,6,7,8,9,10,11]::_)) _ _ _;obtain⟨o160,jiq,UQ,Iw,jib⟩:∃o,R16[0]?=some o/\o.op=.move (.tmp 13)/\o.dst=some 29/\o.guard=none:=⟨_,rfl,rfl,rfl,rfl⟩
 refine BGo.val hT (.slice oa nn oc) jiq Iw jib (by decide) (l':=[(15,.slice sa m c),(13,.slice oa nn oc),(25,.agg fs),(26,.int .i64 i),(3,.int .i64 most)]) (by simp) (λe he hc w=>?_) λT hT=>?_
 ·have xM:=he (13,.slice oa nn oc) (by simp);unfold ai;constructor
  ·simp[go_sem,UQ,xM]
  ·simp[go_sem,UQ,xM]
 obtain⟨o161,jir,UO,jhz,jic⟩:∃o,R16[1]?=some o/\o.op=.move (.tmp 15)/\o.dst=some 30/\o.guard=none:=⟨_,rfl,rfl,rfl,rfl⟩
 refine BGo.val hT (.slice sa m c) jir jhz jic (by decide) (l':=[(29,.slice oa nn oc),(15,.slice sa m c),(13,.slice oa nn oc),(25,.agg fs),(26,.int .i64 i),(3,.int .i64 most)]) (by simp) (λe he hc w=>?_) λT hT=>?_
 ·have Ib:=he (15,.slice sa m c) (by simp);unfold ai;constructor
  ·simp[go_sem,UO,Ib]
  ·simp[go_sem,UO,Ib]
 obtain⟨o162,jis,U5,jh0,jid⟩:∃o,R16[2]?=some o/\o.op=.move (.tmp 15)/\o.dst=some 31/\o.guard=none:=⟨_,rfl,rfl,rfl,rfl⟩
 refine BGo.val hT (.slice sa m c) jis jh0 jid (by decide) (l':=[(30,.slice sa m c),(29,.slice oa nn oc),(15,.slice sa m c),(13,.slice oa nn oc),(25,.agg fs),(26,.int .i64 i),(3,.int .i64 most)]) (by simp) (λe he hc w=>?_) λT hT=>?_
 ·have Ib:=he (15,.slice sa m c) (by simp);unfold ai;constructor
  ·simp[go_sem,U5,Ib]
  ·simp[go_sem,U5,Ib]
 obtain⟨o163,jit,U4,jh1,jie⟩:∃o,R16[3]?=some o/\o.op=.call {callee:=.builtin .len,args:=#[.tmp 31],argTypes:=#[47]}/\o.dst=some 32/\o.guard=none:=⟨_,rfl,rfl,rfl,rfl⟩
 refine BGo.val hT (.int .i64 m) jit jh1 jie (by decide) (l':=[(31,.slice sa m c),(30,.slice sa m c),(29,.slice oa nn oc),(15,.slice sa m c),(13,.slice oa nn oc),(25,.agg fs),(26,.int .i64 i),(3,.int .i64 most)]) (by simp) (λe he hc w=>?_) λT hT=>?_
 ·have Xm:=he (31,.slice sa m c) (by simp);unfold ai;constructor
  ·simp[go_sem,U4,Xm,bK]
  ·simp[go_sem,U4,Xm,bK]
 obtain⟨o164,jiu,U3,jh2,jif⟩:∃o,R16[4]?=some o/\o.op=.move (.tmp 3)/\o.dst=some 33/\o.guard=none:=⟨_,rfl,rfl,rfl,rfl⟩
 refine BGo.val hT (.int .i64 most) jiu jh2 jif (by decide) (l':=[(32,.int .i64 m),(31,.slice sa m c),(30,.slice sa m c),(29,.slice oa nn oc),(15,.slice sa m c),(13,.slice oa nn oc),(25,.agg fs),(26,.int .i64 i),(3,.int .i64 most)]) (by simp) (λe he hc w=>?_) λT hT=>?_
 ·have b3:=he (3,.int .i64 most) (by simp);unfold ai;constructor
  ·simp[go_sem,U3,b3]
  ·simp[go_sem,U3,b3]
 obtain⟨o165,jiv,U2,jh3,jig⟩:∃o,R16[5]?=some o/\o.op=.move (.tmp 13)/\o.dst=some 34/\o.guard=none:=⟨_,rfl,rfl,rfl,rfl⟩
 refine BGo.val hT (.slice oa nn oc) jiv jh3 jig (by decide) (l':=[(33,.int .i64 most),(32,.int .i64 m),(31,.slice sa m c),(30,.slice sa m c),(29,.slice oa nn oc),(15,.slice sa m c),(13,.slice oa nn oc),(25,.agg fs),(26,.int .i64 i),(3,.int .i64 most)]) (by simp) (λe he hc w=>?_) λT hT=>?_
 ·have xM:=he (13,.slice oa nn oc) (by simp);unfold ai;constructor
  ·simp[go_sem,U2,xM]
  ·simp[go_sem,U2,xM]
 obtain⟨o166,jiw,U1,jh4,jih⟩:∃o,R16[6]?=some o/\o.op=.call {callee:=.builtin .len,args:=#[.tmp 34],argTypes:=#[47]}/\o.dst=some 35/\o.guard=none:=⟨_,rfl,rfl,rfl,rfl⟩
 refine BGo.val hT (.int .i64 nn) jiw jh4 jih (by decide) (l':=[(34,.slice oa nn oc),(33,.int .i64 most),(32,.int .i64 m),(31,.slice sa m c),(30,.slice sa m c),(29,.slice oa nn oc),(15,.slice sa m c),(13,.slice oa nn oc),(25,.agg fs),(26,.int .i64 i),(3,.int .i64 most)]) (by simp) (λe he hc w=>?_) λT hT=>?_
 ·have Xj:=he (34,.slice oa nn oc) (by simp);unfold ai;constructor
  ·simp[go_sem,U1,Xj,bK]
  ·simp[go_sem,U1,Xj,bK]
 obtain⟨o167,jix,U0,Iu,jii⟩:∃o,R16[7]?=some o/\o.op=.binOp .sub 3 (.tmp 33) (.tmp 35) 3/\o.dst=some 36/\o.guard=none:=⟨_,rfl,rfl,rfl,rfl⟩
 refine BGo.val hT (.int .i64 (most-nn)) jix Iu jii (by decide) (l':=[(35,.int .i64 nn),(34,.slice oa nn oc),(33,.int .i64 most),(32,.int .i64 m),(31,.slice sa m c),(30,.slice sa m c),(29,.slice oa nn oc),(15,.slice sa m c),(13,.slice oa nn oc),(25,.agg fs),(26,.int .i64 i),(3,.int .i64 most)]) (by simp) (λe he hc w=>?_) λT hT=>?_
 ·have Xk:=he (33,.int .i64 most) (by simp);have Xi:=he (35,.int .i64 nn) (by simp);unfold ai;constructor
  ·simp[go_sem,U0,Xk,Xi,nQ]
  ·simp[go_sem,U0,Xk,Xi,nQ]
 obtain⟨o168,jiy,UZ,Ir,jij⟩:∃o,R16[8]?=some o/\o.op=.call {callee:=.builtin .min,args:=#[.tmp 32,.tmp 36],argTypes:=#[3,3]}/\o.dst=some 37/\o.guard=none:=⟨_,rfl,rfl,rfl,rfl⟩
 refine BGo.val hT (.int .i64 kk) jiy Ir jij (by decide) (l':=[(36,.int .i64 (most-nn)),(35,.int .i64 nn),(34,.slice oa nn oc),(33,.int .i64 most),(32,.int .i64 m),(31,.slice sa m c),(30,.slice sa m c),(29,.slice oa nn oc),(15,.slice sa m c),(13,.slice oa nn oc),(25,.agg fs),(26,.int .i64 i),(3,.int .i64 most)]) (by simp) (λe he hc w=>?_) λT hT=>?_
 ·have Xl:=he (32,.int .i64 m) (by simp);have Xh:=he (36,.int .i64 (most-nn)) (by simp);unfold ai;constructor
  ·simp[go_sem,UZ,Xl,Xh,dy,dz,oD]
  ·simp[go_sem,UZ,Xl,Xh,dy,dz,oD]
 obtain⟨o169,jiz,UY,jh5,jik⟩:∃o,R16[9]?=some o/\o.op=.slice 47 (.tmp 30) none (some (.tmp 37)) none/\o.dst=some 38/\o.guard=none:=⟨_,rfl,rfl,rfl,rfl⟩
 refine BGo.val hT (.slice sa kk c) jiz jh5 jik (by decide) (l':=[(37,.int .i64 kk),(36,.int .i64 (most-nn)),(35,.int .i64 nn),(34,.slice oa nn oc),(33,.int .i64 most),(32,.int .i64 m),(31,.slice sa m c),(30,.slice sa m c),(29,.slice oa nn oc),(15,.slice sa m c),(13,.slice oa nn oc),(25,.agg fs),(26,.int .i64 i),(3,.int .i64 most)]) (by simp) (λe he hc w=>?_) λT hT=>?_
 ·have Xn:=he (30,.slice sa m c) (by simp);have Xg:=he (37,.int .i64 kk) (by simp);unfold ai;constructor
  ·simp[go_sem,UY,Xn,Xg,Instr.sliceAt,Instr.slice,Instr.sliceBounds,Instr.sliceBound,xH]
  ·simp[go_sem,UY,Xn,Xg,Instr.sliceAt,Instr.slice,Instr.sliceBounds,Instr.sliceBound,xH]
 refine n T (hT.sub ?_);simp
end
def kN (most:Nat) (m:Nat->Nat) (rows:Nat->List ag):Nat->Nat×List ag
 |0=>(0,[])
 |i+1=>((kN most m rows i).1+min (m i) (most-(kN most m rows i).1),(kN most m rows i).2++(rows i).take (min (m i) (most-(kN most m rows i).1)*2))
theorem q99 (most:Nat) (m:Nat->Nat) (rows:Nat->List ag) (i:Nat):(kN most m rows i).1<=most:=by
 induction i with
 |zero=>exact xzl _
 |succ i ih=>simp only[kN];omega
theorem TA (most:Nat) (m:Nat->Nat) (rows:Nat->List ag) {B:Nat}:∀i,(∀j,j<i->m j<=B)->(kN most m rows i).1<=i*B
 |0,_=>xzl _
 |i+1,h=>by
  have:=TA most m rows i λj hj=>h j (by omega);have:=h i (by omega);simp only[kN];rw[Nat.succ_mul];omega
section
variable {cs:List am} {SB:Blocks} {Z:am->ae->Prop} {k:List Item} {ρ0:Rel} {w0:ae} {fs:Array ag} {lv:Nat->ag} {m:Nat->Nat} {rows:Nat->List ag} {most:Nat} {Gb:Blocks}
theorem jke (vX:∀i,i<4->fs[i]?=some (lv i)) (hG:∀b,Gb b->b<w0.heap.size/\ρ0 b b) (hr:∀i,i<4->nU Gb w0 (lv i) (m i) (rows i)) (Bz:∀b,SB b->b<w0.heap.size) (hm:∀i,i<4->m i<=268435456) (Eh:most<=9223372036854775807)
  (nx:∀T' pE ρ' w',TlS ρ0 w0 SB (kN most m rows 4).1 (kN most m rows 4).2 pE ρ' w'->TH T' [(13,pE)]->BGo cs (bS.at ⟨T',[]⟩ (.code tE::k)) w' SB Z):
  ∀r i,i+r=4->∀T ov ρ w,TlS ρ0 w0 SB (kN most m rows i).1 (kN most m rows i).2 ov ρ w->TH T [(13,ov),(25,.agg fs),(26,.int .i64 i),(3,.int .i64 most)]->
   BGo cs (bS.at ⟨T,[]⟩ (.code tL::.inLoop tL::.inBlock 2::.code tE::k)) w SB Z:=by
 intro r;induction r with
 |zero=>
  intro i hi T ov ρ w h hT;obtain rfl:i=4:=by omega
  refine BGo.sil (VF hT.1 (hT.2 (26,.int .i64 ((4:Nat):Int)) (by simp)) (b:=false) (zu (by decide))) ?_;refine BGo.sil (Sil.ctl (λw1=>stepG_exit rfl) (.refl _ _)) ?_;exact nx _ ov ρ w h ((hT.set (l':=[(13,ov)]) (.bool false) (by decide) (by simp)).sub (by simp))
 |succ r ih=>
  intro i hi T ov ρ w h hT;have xI:i<4:=by omega
  refine BGo.sil (VF hT.1 (hT.2 (26,.int .i64 i) (by simp)) (b:=true) (xdt (by omega))) ?_;refine BGo.sil (Sil.ctl (λw1=>dh) (Sil.ctl (λw1=>aD) (Sil.ctl (λw1=>bB) (.refl _ _)))) ?_;have KL:TH (T.setIfInBounds 27 (.bool true)) [(13,ov),(25,.agg fs),(26,.int .i64 i),(3,.int .i64 most)]:=(hT.set (l':=[(13,ov),(25,.agg fs),(26,.int .i64 i),(3,.int .i64 most)]) (.bool true) (by decide) (by simp)).sub (by simp);generalize T.setIfInBounds 27 (.bool true)=T1 at KL⊢;refine jfs xI (vX i xI) KL λT2 KJ=>?_;have hle:=q99 most m rows i;have hml:=hm i xI;have zK:∃oa oc,ov=.slice oa (kN most m rows i).1 oc:=by
   rcases h.own.2 with⟨rfl,e⟩|⟨g,cap,cur,rfl,_⟩
   ·exact⟨none,0,by rw[e]⟩
   ·exact⟨_,_,rfl⟩
  obtain⟨oa,oc,zK⟩:=zK;have oC:∃sa c,lv i=.slice sa (m i) c/\m i<=c:=by
   rcases(hr i xI).2 with⟨e,e2⟩|⟨g,cap,cur,e,_,_,h1,_⟩
   ·exact⟨none,0,by rw[e,e2],by omega⟩
   ·exact⟨_,_,e,h1⟩
  obtain⟨sa,c,oC,Wq⟩:=oC;have oD:((min (m i) (most-(kN most m rows i).1):Nat):Int)=if(most:Int)-((kN most m rows i).1:Nat)<(m i:Nat)then(most:Int)-((kN most m rows i).1:Nat)else(m i:Nat):=by
   split<;>omega
  refine tCut oC zK (by omega) (by omega) oD Wq KJ λT3 Hy=>?_;have hb:=TA most m rows (B:=268435456) i λj hj=>hm j (by omega);have fQ:i*268435456<=3*268435456:=bX _ (by omega);refine q98 (kk:=min (m i) (most-(kN most m rows i).1)) (l':=[(25,.agg fs),(26,.int .i64 i),(3,.int .i64 most)]) h hG oC (hr i xI) (Nat.min_le_left _ _) Bz (by omega) Hy (by simp) (by simp) (by simp) λT4 pE ρ' w' h' OE=>?_;refine BGo.sil (jkf xI OE.1 (OE.2 (26,.int .i64 i) (by simp))) ?_;refine ih (i+1) (by omega) _ pE ρ' w' h' ?_;have e1:=OE.set (l':=[(13,pE),(25,.agg fs),(3,.int .i64 most)]) (d:=40) (.int .i64 ((i+1:Nat):Int)) (by decide) (by simp);exact(e1.set (l':=[(13,pE),(25,.agg fs),(3,.int .i64 most)]) (d:=26) (.int .i64 ((i+1:Nat):Int)) (by decide) (by simp)).sub (by simp)
end
theorem Same.trans {b c:ae} (h:Same a b) (k:Same b c):Same a c:=⟨k.heap.trans h.heap,k.os.trans h.os,k.output.trans h.output⟩
theorem Same.at (w:ae) (d:Nat):Same w (w.at d):=⟨rfl,rfl,rfl⟩
theorem Same.re (w:ae) (τ:Tape):Same w (re w τ):=⟨rfl,rfl,rfl⟩
def ql (N:Blocks) (kv:List ag) (cs:List am) (fr:am) (w:ae) (eT:List am) (Z:am->ae->Prop):Prop:=
 ∀(wc:ae),Same w wc->∀(gs:Array aq) (sl:Option (Nat×Nat)) (t:bo) (SB:Blocks) (ρ:Rel) (q:Nat->Nat),Co XG fb blG SB ρ gs fr cs wc t q->(∀b,N b->¬SB b)->(∀v∈kv,VR XG.F ρ v v)->
  ∃(eX:Array aq) (eD:am) (w':ae) (sl':Option (Nat×Nat)) (t':bo) (O3:Blocks) (ρ':Rel) (q':Nat->Nat),Runs XG.P gs wc sl t eX w' sl' t'/\Z eD w'/\Co XG fb blG O3 ρ' eX eD eT w' t' q'/\(∀b,N b->¬O3 b)/\∀v∈kv,VR XG.F ρ' v v
section
variable {N:Blocks} {kv:List ag} {cs eT BG:List am} {fr j5 iJ:am} {w w1:ae} {Z Z':am->ae->Prop} {b:am} {a:Act} {k:List Item}
theorem ql.done (h:∀wc,Same w wc->Z fr wc):ql N kv cs fr w cs Z:=λwc hs gs sl t SB ρ q hc hN hK=>⟨gs,fr,wc,sl,t,SB,ρ,q,⟨0,rfl⟩,h wc hs,hc,hN,hK⟩
theorem ql.then (h:ql N kv cs fr w eT Z) (k:∀j5 w1,Z j5 w1->ql N kv eT j5 w1 BG Z'):ql N kv cs fr w BG Z':=λwc hs gs sl t SB ρ q hc hN hK=>by
 obtain⟨lK,j5,w1,jC,t1,O0,ρ1,q1,h1,h2,h3,Fa,hK1⟩:=h wc hs gs sl t SB ρ q hc hN hK;obtain⟨rE,iJ,w2,qJ,t2,Aa,ρ2,q2,h4,h5,h6,h7⟩:=k j5 w1 h2 w1 (Same.refl _) lK jC t1 O0 ρ1 q1 h3 Fa hK1;exact⟨rE,iJ,w2,qJ,t2,Aa,ρ2,q2,h1.trans h4,h5,h6,h7⟩
theorem ql.mono (h:ql N kv cs fr w eT Z) (k:∀j5 w1,Z j5 w1->Z' j5 w1):ql N kv cs fr w eT Z':=λwc hs gs sl t SB ρ q hc hN hK=>
 let⟨lK,j5,w1,jC,t1,O0,ρ1,q1,h1,h2,h3⟩:=h wc hs gs sl t SB ρ q hc hN hK
 ⟨lK,j5,w1,jC,t1,O0,ρ1,q1,h1,k _ _ h2,h3⟩
abbrev FSt (ρ:Rel) (f:am):Prop:=FR XG fb true ρ (wt f []) (wt f [])
abbrev FSb (ρ:Rel) (f:am):Prop:=blG f.fn=false->FSt ρ f
theorem ql.sil (hs:Sil XG.P fr cs j5 eT) (hf:∀ρ,FSb ρ fr->(∀c∈cs,FSb ρ c)->(∀v∈kv,VR XG.F ρ v v)->FSb ρ j5/\∀c∈eT,FSb ρ c) (n:ql N kv eT j5 w BG Z):ql N kv cs fr w BG Z:=λwc s gs sl t SB ρ q hc hN hK=>by
 obtain⟨fM,uV⟩:=hf ρ hc.fr hc.cs hK;obtain⟨lK,d,jC,t1,q1,h1,h2,h3⟩:=hc.sil (sl:=sl) hs fM uV;obtain⟨rE,iJ,w2,qJ,t2,Aa,ρ2,q2,h4,h5,h6⟩:=n (wc.at d) (s.trans (Same.at wc d)) lK jC t1 SB ρ q1 h3 hN hK;exact⟨rE,iJ,w2,qJ,t2,Aa,ρ2,q2,h1.trans h4,h5,h6⟩
theorem ql.ctl {t1:List Item} (h:∀w,aV XG.P true (G fr cs) w=.go (G (wt fr t1) cs) w #[]) (n:ql N kv cs (wt fr t1) w eT Z):ql N kv cs fr w eT Z:=
 ql.sil (.step h (.refl _ _)) (λ_ h1 h2 _=>⟨h1,h2⟩) n
theorem ql.seq {x y:Code} (n:ql N kv cs (b.at a (.code x::.code y::k)) w eT Z):ql N kv cs (b.at a (.code (.seq x y)::k)) w eT Z:=ql.ctl (λ_=>aD) n
theorem ql.skip (n:ql N kv cs (b.at a k) w eT Z):ql N kv cs (b.at a (.code .skip::k)) w eT Z:=ql.ctl (λ_=>dh) n
theorem ql.cond {c:cw} {x y:Code} {t:Bool} (h:a.eval c=.bool t) (n:ql N kv cs (b.at a (.code (if t then x else y)::k)) w eT Z):ql N kv cs (b.at a (.code (.cond c x y)::k)) w eT Z:=ql.ctl (λ_=>stepG_cond h) n
theorem ql.block {id:Nat} {c:Code} (n:ql N kv cs (b.at a (.code c::.inBlock id::k)) w eT Z):ql N kv cs (b.at a (.code (.block id c)::k)) w eT Z:=ql.ctl (λ_=>bB) n
theorem ql.inBlock {id:Nat} (n:ql N kv cs (b.at a k) w eT Z):ql N kv cs (b.at a (.inBlock id::k)) w eT Z:=ql.ctl (λ_=>cj) n
theorem ql.loop {c:Code} (n:ql N kv cs (b.at a (.code c::.inLoop c::k)) w eT Z):ql N kv cs (b.at a (.code (.loop c)::k)) w eT Z:=ql.ctl (λ_=>stepG_loop) n
theorem ql.inLoop {c:Code} (n:ql N kv cs (b.at a (.code c::.inLoop c::k)) w eT Z):ql N kv cs (b.at a (.inLoop c::k)) w eT Z:=ql.ctl (λ_=>stepG_inLoop) n
theorem ql.exit {id:Nat} (h:cn id k=some k') (n:ql N kv cs (b.at a k') w eT Z):ql N kv cs (b.at a (.code (.exit id)::k)) w eT Z:=ql.ctl (λ_=>stepG_exit h) n
theorem ql.region {id:Nat} (n:ql N kv cs (b.at a (.inRegion ops (da ops.size)::k)) w eT Z):ql N kv cs (b.at a (.code (.region id ops false)::k)) w eT Z:=ql.ctl (λ_=>aA) n
theorem ql.regionEnd (n:ql N kv cs (b.at a k) w eT Z):ql N kv cs (b.at a (.inRegion ops []::k)) w eT Z:=ql.ctl (λ_=>au) n
theorem ql.code {c:Code} {Q:Exit->Act->ae->Prop} (jB:blG b.fn=false) (hc:codeOk XG.P XG.P fb true c=true) (qZ:Plain k Q) (rD:∀e a w wc,Same w wc->Q e a w->Q e a wc) (hp:∀wc,Same w wc->c.wp XG.P Q a wc)
  (n:∀e a' w' eD,Q e a' w'->AP b k e a' eD->ql N kv cs eD w' eT Z):ql N kv cs (b.at a (.code c::k)) w eT Z:=λwc s gs sl t SB ρ q gQ hN hK=>by
 obtain⟨lK,j5,w1,jC,t1,q1,ρ1,h1,_,hle,⟨e,a',h2,h3⟩,h4⟩:=gQ.code (sl:=sl) rfl Nj jB hc qZ rD λτ _=>hp (re wc τ) (s.trans (Same.re wc τ));obtain⟨rE,iJ,w2,qJ,t2,Aa,ρ2,q2,h5,h6,h7⟩:=n e a' w1 j5 h2 h3 w1 (Same.refl _) lK jC t1 SB ρ1 q1 h4 hN λv hv=>(hK v hv).mono hle;exact⟨rE,iJ,w2,qJ,t2,Aa,ρ2,q2,h1.trans h5,h6,h7⟩
theorem ql.op {ops:Array Oper} {i:Nat} {td:List Nat} {o:Oper} {Q:Act->ae->Prop} (jB:blG b.fn=false) (id:Nat) (ho:ops[i]?=some o) (fI:nk XG.P XG.P fb true (Sim.bare o)=true) (dU:aa o (az ops a.tmps)=true) (rD:∀a w wc,Same w wc->Q a w->Q a wc)
  (hp:∀wc,Same w wc->(Code.region id #[Sim.bare o] false).wp XG.P (λe a' w'=>e=.normal/\Q a' w') a wc)
  (n:∀a' w',Q a' w'->ql N kv cs (b.at a' (.inRegion ops td::k)) w' eT Z):ql N kv cs (b.at a (.inRegion ops (i::td)::k)) w eT Z:=λwc s gs sl t SB ρ q gQ hN hK=>by
 obtain⟨lK,j5,w1,jC,t1,q1,ρ1,h1,_,hle,⟨a',h2,rfl⟩,h4⟩:=gQ.op (sl:=sl) rfl Nj jB ho fI dU rD (id:=id) λτ _=>hp (re wc τ) (s.trans (Same.re wc τ));obtain⟨rE,iJ,w2,qJ,t2,Aa,ρ2,q2,h5,h6,h7⟩:=n a' w1 h2 w1 (Same.refl _) lK jC t1 SB ρ1 q1 h4 hN λv hv=>(hK v hv).mono hle;exact⟨rE,iJ,w2,qJ,t2,Aa,ρ2,q2,h1.trans h5,h6,h7⟩
def Leaves (fr:am) (v:ag):Prop:=fr.mode=.returning/\fr.defers=[]/\fr.kind=.normal/\∃fn,XG.P.funcs[fr.fn]?=some fn/\∀w,(results fn fr.tmps).runT XG.P w #[]=(.ok v w,#[])
def Ret (f:aC) (R:ag->ae->Prop) (fr:am) (w:ae):Prop:=
 fr.fn=f/\∃v,Leaves fr v/\(∀ρ,zi XG.F ρ fr.tmps.toList fr.tmps.toList->VR XG.F ρ v v)/\R v w
def Ee (N:Blocks) (kv:List ag) (f:aC) (args:Array ag) (w:ae) (R:ag->ae->Prop):Prop:= ∀cs,ql N kv cs (av XG.P f args .normal) w cs (Ret f R)
def uJ (N:Blocks) (kv:List ag) (f:aC) (args:Array ag) (w:ae) (R:ag->ae->Prop):Prop:= ∀c cs,ql N kv (c::cs) (av XG.P f args .normal) w cs (λfr w'=>∃v,fr=c.finish v/\R v w')
theorem uJ.mono {args:Array ag} {R':ag->ae->Prop} (h:uJ N kv f args w R) (k:∀v w,R v w->R' v w):uJ N kv f args w R':=
 λc cs=>(h c cs).mono λ_ _ ⟨v,h1,h2⟩=>⟨v,h1,k _ _ h2⟩
theorem q05 (P:aM) (f:aC) (args:Array ag):(av P f args .normal).fn=f:=rfl
theorem FSt.enter {ρ:Rel} {f:aC} {fn:Func} {args:Array ag} (hf:XG.P.funcs[f]?=some fn) (ha:zi XG.F ρ args.toList args.toList):FSt ρ (av XG.P f args .normal):=by
 show FR XG fb true ρ (wt (av XG.P f args .normal) []) (wt (av XG.P f args .normal) []);unfold av;simp only[hf];refine⟨rfl,⟨fn,hf,hf⟩,?_,.nil,.nil,rfl,.inl rfl,rfl,rfl,.inl ⟨rfl,rfl⟩⟩;refine ha.Cy ?_;rw[Array.toList_replicate];exact zi.replicate Er _
theorem FSt.finish {f:am} {v:ag} (h:FSt ρ f) (hv:VR XG.F ρ v v):FSt ρ (f.finish v):=by
 have key:∀(tm:Array ag) (td:List Item),zi XG.F ρ tm.toList tm.toList->FSt ρ {f with tmps:=tm,todo:=td}:=λtm td ht=>⟨rfl,h.same,ht,.nil,h.defers,rfl,h.run,h.kind,h.kind',h.round⟩
 unfold dB;split
 ·refine key _ _ ?_;split
  ·exact h.tmps.GL _ hv
  ·exact h.tmps
 ·exact key _ _ h.tmps
 ·exact key _ _ h.tmps
 ·exact key _ _ h.tmps
 ·exact key _ _ (.cons hv .nil)
 ·exact h
theorem Frame.Tn (c:am) (v:ag):(c.finish v).fn=c.fn:=by
 unfold dB;split<;>first|rfl|(split<;>rfl)
theorem Uk {fr c:am} {v:ag} {w:ae} (h:Leaves fr v):aV XG.P true (G fr (c::cs)) w=.go (G (c.finish v) cs) w #[]:=by
 obtain⟨hm,hd,hk,fn,hf,hr⟩:=h;rw[yj _ _ _ _ _ hm];obtain⟨Fg,IC,VE,FX,FD,FE,QF⟩:=fr;obtain rfl:FX=[]:=hd;obtain rfl:FD=.returning:=hm;obtain rfl:FE=.normal:=hk;have hf:XG.P.funcs[Fg]?=some fn:=hf;have hr:(results fn IC).runT XG.P w #[]=(.ok v w,#[]):=hr w;unfold unwind;dsimp only;rw[hf];dsimp only;rw[hr];rfl
theorem Ee.calls {args:Array ag} (jB:blG f=false) (hS:∀v w wc,Same w wc->R v w->R v wc) (h:Ee N kv f args w R):uJ N kv f args w R:=λc cs=>by
 refine(h (c::cs)).then ?_;rintro j5 w1 ⟨vY,v,hl,hv,hr⟩;exact ql.sil (.step (λw=>Uk hl) (.refl _ _)) (λρ h1 h2 _=>⟨λhb=>FSt.finish (h2 c (.head _) (by rw[<-Frame.Tn c v];exact hb)) (hv ρ (h1 (by rw[vY];exact jB)).tmps),λc hc=>h2 c (.tail _ hc)⟩) (ql.done λwc s=>⟨v,rfl,hS _ _ _ s hr⟩)
theorem ql.call {td:List Nat} {fn:Func} {args:Array ag} (ho:ops[i]?=some o) (hw:aa o (az ops a.tmps)=true) (hk:b.kind≠.early)
  (ev:∀w,(ai a.eval o).run XG.P w=.ok (.enter f args) w/\(ai a.eval o).events XG.P w #[]=#[]) (hf:XG.P.funcs[f]?=some fn)
  (iF:∀ρ,FSb ρ (b.at a (.inRegion ops (i::td)::k))->(∀v∈kv,VR XG.F ρ v v)->blG f=false->zi XG.F ρ args.toList args.toList)
  (pW:uJ N kv f args w R) (n:∀v w',R v w'->ql N kv cs (b.at (a.put o.dst v) (.inRegion ops td::k)) w' eT Z):ql N kv cs (b.at a (.inRegion ops (i::td)::k)) w eT Z:=by
 have hs:∀w,aV XG.P true (G (b.at a (.inRegion ops (i::td)::k)) cs) w=.go (G (av XG.P f args .normal) (b.at a (.inRegion ops (i::td)::k)::cs)) w #[]:=λw=>by
  rw[bT ho hw hk (ev w).1];unfold listed;rw[(ev w).2,bF]
 refine ql.sil (.step hs (.refl _ _)) (λρ h1 h2 hk=>⟨λhb=>FSt.enter hf (iF ρ h1 hk (by rw[<-q05 XG.P f args];exact hb)),λc hc=>?_⟩) ((pW _ _).then ?_)
 ·rcases aE.1 hc with rfl|hc
  ·exact h1
  ·exact h2 c hc
 rintro j5 w1 ⟨v,rfl,hr⟩;rw[Frame.finish_at,ho];exact n v w1 hr
end
end
end Ph
namespace Sim
open Go Go.Conc
def dg (ρ:Rel):Rel:=λa b=>a=b/\∃x,ρ x b
section
variable {F:aC->Prop} {ρ:Rel}
theorem yG {a b:Nat} (h:ρ a b):dg ρ b b:=⟨rfl,a,h⟩
mutual
theorem VR.right:∀{v v':ag},VR F ρ v v'->VR F (dg ρ) v' v'
 |_,_,.bool b=>.bool b
 |_,_,.int k n=>.int k n
 |_,_,.string s=>.string s
 |_,_,.oO=>.oO
 |_,_,.ptr r=>.ptr (yG r)
 |_,_,.j6 n c=>.j6 n c
 |_,_,.slice r=>.slice (yG r)
 |_,_,.qO=>.qO
 |_,_,.map r=>.map (yG r)
 |_,_,.func f r=>.func f r.right
 |_,_,.yield r=>.yield (yG r)
 |_,_,.nilFunc=>.nilFunc
 |_,_,.agg r=>.agg r.right
 |_,_,.tuple r=>.tuple r.right
theorem zi.right:∀{l l':List ag},zi F ρ l l'->zi F (dg ρ) l' l'
 |_,_,.nil=>.nil
 |_,_,.cons a b=>.cons a.right b.right
end
theorem ER.right {e e':bu} (h:ER F ρ e e'):ER F (dg ρ) e' e':=⟨h.key.right,h.val.right,rfl⟩
theorem EsR.right:∀{l l':List bu},EsR F ρ l l'->EsR F (dg ρ) l' l'
 |_,_,.nil=>.nil
 |_,_,.cons a b=>.cons a.right b.right
theorem DsR.right:∀{l l':List cZ},DsR ρ l l'->DsR (dg ρ) l' l'
 |_,_,.nil=>.nil
 |_,_,.cons a b=>.cons (yG a) b.right
theorem p9.right {x x':Option Nat} (h:p9 ρ x x'):p9 (dg ρ) x' x':=by
 rcases h with⟨_,h⟩|⟨l,l',_,h,r⟩
 ·exact .inl ⟨h,h⟩
 ·exact .inr ⟨l',l',h,h,yG r⟩
variable {X:Cx} {Fb:aC->Bool} {wr:Bool}
theorem OR.right {o o':Obj} (h:OR X ρ o o'):OR X (dg ρ) o' o':=by
 cases h with
 |cells a b=>exact .cells a.right (.inl rfl)
 |map a=>exact .map a.right
 |stringIter s p=>exact .stringIter s p
 |Bd a b c=>exact .Bd a b c
 |mapIter r=>exact .mapIter (yG r)
 |loop a b c d e g=>exact .loop a.right (yG b) c d e g
 |number l r=>exact .number l (yG r)
 |CZ=>exact .CZ
 |deferred=>exact .deferred
theorem WR.right (h:WR X ρ w w') (hs:∀a,¬X.Sh a):WR X (dg ρ) w' w':=
 ⟨λh1 h2=>h1.1.symm.trans h2.1,λh1 h2=>h1.1.trans h2.1.symm,λ{a b} ⟨e,x,hx⟩=>by
  subst e;obtain⟨o,o',_,k2,k3⟩:=h.heap hx
  exact⟨o',o',k2,k2,k3.right⟩,λ_ _=>rfl,λa ha=>(hs a ha).elim⟩
end
end Sim
namespace Ph
section
open Go Go.Conc Go.ConcN Sim
section
variable {X:Cx} {Fb:aC->Bool} {wr:Bool} {ρ:Rel}
theorem RY {f f':am} (h:FR X Fb wr ρ (wt f []) (wt f' [])):FR X Fb wr (dg ρ) (wt f' []) (wt f' []):=
 ⟨rfl,let⟨g,h1,h2⟩:=h.same;⟨g,by rw[h.fn];exact h1,by rw[h.fn];exact h2⟩,h.tmps.right,.nil,h.defers.right,rfl,by have:=h.run;rw[<-h.mode]at this;exact this,h.kind',h.kind',h.round.right⟩
end
theorem je6 (ρ:Rel):rng (dg ρ)=rng ρ:=by
 funext b;exact propext ⟨λ⟨_,_,h⟩=>h,λ⟨a,h⟩=>⟨b,rfl,a,h⟩⟩
theorem UE (ρ:Rel):own XG ρ=rng ρ:=by
 funext b;exact propext ⟨λ⟨a,h,_⟩=>⟨a,h⟩,λ⟨a,h⟩=>⟨a,h,λh=>h⟩⟩
theorem Co.diag (h:Co XG fb blG SB ρ gs fr cs w t q):Co XG fb blG SB (dg ρ) gs fr cs w t q:=
 ⟨h.g0,h.leavers,h.past,by rw[UE,je6];have:=h.foot;rwa [UE]at this,λhb=>RY (h.fr hb),λc hc hb=>RY (h.cs c hc hb),h.wr.right λ_ h=>h,h.nb⟩
end
section
open Go.Conc Go.ConcN Go.RowKit Go.Conc.Lib Go.ConcR.Gen Go.ConcN.Gen Go Sim
open Go.ConcR (KK wgBlock WgAt stA smA rd wr mk Payload Aside2 DC0 ofEvent_cell)
structure qN (cl:Nat) (db mb:Nat->Nat) (es:Nat->Array bu) (ck:Nat->Nat) (w:ae):Prop where
 d:∀i,i<4->w.cell? ⟨cl,1+i*3+1,none⟩=some (.pointer (some ⟨db i,0,none⟩))
 b:∀i,i<4->w.heap[db i]?=some (.cells #[.map (some (mb i))] 142 (0,0))
 m:∀i,i<4->w.heap[mb i]?=some (.map (es i) (ck i))
section
variable {cl:Nat} {db mb:Nat->Nat} {es:Nat->Array bu} {ck:Nat->Nat} {w w1:ae}
theorem qN.to (h:qN cl db mb es ck w) (kc:w1.heap[cl]?=w.heap[cl]?) (kd:∀i,i<4->w1.heap[db i]?=w.heap[db i]?) (km:∀i,i<4->w1.heap[mb i]?=w.heap[mb i]?):qN cl db mb es ck w1:=
 ⟨λi hi=>(vO (a:=⟨cl,1+i*3+1,none⟩) kc).trans (h.d i hi),λi hi=>(kd i hi).trans (h.b i hi),λi hi=>(km i hi).trans (h.m i hi)⟩
theorem qN.ltc (h:qN cl db mb es ck w):cl<w.heap.size:=by
 have:=h.d 0 (by decide);unfold aG at this;cases e:w.heap[cl]? with
 |none=>simp[e]at this
 |some o=>exact(yx e).1
theorem qN.ltd (h:qN cl db mb es ck w) (i:Nat) (hi:i<4):db i<w.heap.size:=(yx (h.b i hi)).1
theorem qN.ltm (h:qN cl db mb es ck w) (i:Nat) (hi:i<4):mb i<w.heap.size:=(yx (h.m i hi)).1
theorem qN.old (h:qN cl db mb es ck w) (k:∀b,b<w.heap.size->w1.heap[b]?=w.heap[b]?):qN cl db mb es ck w1:=
 h.to (k _ h.ltc) (λi hi=>k _ (h.ltd i hi)) (λi hi=>k _ (h.ltm i hi))
end
section
variable {cl:Nat} {db mb:Nat->Nat} {es:Nat->Array bu} {ck:Nat->Nat} {s t:ByteArray} {m:Nat->Nat} {rows:Nat->List ag} {cb ab tb C Wg:Nat} {F:Blocks} {w w1:ae}
structure FxS (cl:Nat) (db mb:Nat->Nat) (es:Nat->Array bu) (ck:Nat->Nat) (cb ab tb:Nat) (s t:ByteArray) (F:Blocks) (w:ae):Prop where
 clu:qN cl db mb es ck w
 c:w.cell? ⟨cb,0,none⟩=some (.pointer (some ⟨cl,0,none⟩))
 f:w.cell? ⟨ab,0,none⟩=some (.string s)
 t:w.cell? ⟨tb,0,none⟩=some (.string t)
 Fc:F cb
 Ff:F ab
 Ft:F tb
 Fl:F cl
 Fd:∀i,i<4->F (db i)
 Fm:∀i,i<4->F (mb i)
theorem FxS.ext (h:FxS cl db mb es ck cb ab tb s t F w) (e:Ext F w w1):FxS cl db mb es ck cb ab tb s t F w1:=
 ⟨h.clu.to (e.keep _ h.Fl) (λi hi=>e.keep _ (h.Fd i hi)) (λi hi=>e.keep _ (h.Fm i hi)),(vO (a:=⟨cb,0,none⟩) (e.keep _ h.Fc)).trans h.c,(vO (a:=⟨ab,0,none⟩) (e.keep _ h.Ff)).trans h.f,(vO (a:=⟨tb,0,none⟩) (e.keep _ h.Ft)).trans h.t,h.Fc,h.Ff,h.Ft,h.Fl,h.Fd,h.Fm⟩
theorem FxS.sub {F':Blocks} (h:FxS cl db mb es ck cb ab tb s t F w) (k:∀b,F b->F' b):FxS cl db mb es ck cb ab tb s t F' w:=⟨h.clu,h.c,h.f,h.t,k _ h.Fc,k _ h.Ff,k _ h.Ft,k _ h.Fl,λi hi=>k _ (h.Fd i hi),λi hi=>k _ (h.Fm i hi)⟩
theorem QR {Fp:aC->Prop} {ρ:Rel}:∀{l l':List ag},zi Fp ρ l l'->(∀x∈l,∃s,x=.string s)->l'=l
 |_,_,.nil,_=>rfl
 |_,_,.cons a b,h=>by
  obtain⟨s,rfl⟩:=h _ (.head _);cases a;rw[QR b λx hx=>h x (.tail _ hx)]
theorem q90 {Sh:Nat->Prop} {v v':ag} {w:ae} (h:nU (λ_=>True) w v n xs) (hv:VR (λf=>fbP f=true) ρ v v') (hw:WN (XW Sh) ρ w w'):nU (rng ρ) w' v' n xs:=by
 refine⟨h.1,?_⟩;rcases h.2 with⟨rfl,e⟩|⟨g,cap,cur,rfl,_,h2,h3,h4,h5,h6⟩
 ·cases hv;exact .inl ⟨rfl,e⟩
 ·cases hv with
  | @slice b b' o sp n c hr=>
   obtain⟨τ,_,k⟩:=hw;obtain⟨o1,o2,k1,k2,k3⟩:=k.heap hr;have k1:w.heap[g]?=some o1:=k1;rw[h2]at k1;cases k1;cases k3 with
   | @cells c c' e z z' hc hz=>
    have KH:c'=cur:=by
     have:=QR hc h6;exact Array.ext' this
    subst KH;have zG:z'=(0,0):=hz.elim id id;subst zG;exact .inr ⟨b',cap,c',rfl,⟨_,hr⟩,k2,h3,h4,h5,h6⟩
theorem ZV (hCW:C≠Wg) (jA:∀i,i<4->∀(F:aC->Prop) ρ,EsR F ρ (es i).toList (es i).toList)
  (wI:∀i,i<4->∀wl,wl.heap[db i]?=some (.cells #[.map (some (mb i))] 142 (0,1))->wl.heap[mb i]?=some (.map (es i) (ck i))->bU prog 56 #[.pointer (some ⟨db i,0,none⟩),.string s,.string t] wl fun|.returned v,w'=>nU (λ_=>True) w' v (m i) (rows i)|_,_=>False)
  (i:Nat) (hi:i<4) (F:Blocks) (w:ae) (kb:Nat) (hx:FxS cl db mb es ck cb ab tb s t F w) (hF:FOk F (λ_=>False) w) (hk:F kb) (hc:w.cell? ⟨kb,0,none⟩=some (.int .i64 i)):
  Script prog link.tWg Wg C 4 (λi F v w=>nU F w v (m i) (rows i)) i F (born prog (yH Wg cb kb ab tb C)) w:=by
 refine jad (ja:=λi F v w=>nU F w v (m i) (rows i)) (cl:=cl) (dp:=.pointer (some ⟨db i,0,none⟩)) (s:=.string s) (t:=.string t) hi hCW (λF v w w1 h e=>h.ext e.keep) (λF v w h=>?_) ⟨hc,hx.c,hx.f,hx.t,hx.clu.d i hi,hk,hx.Fc,hx.Ff,hx.Ft,hx.Fl⟩ hF λc cs w1 e=>?_
 ·rcases h.2 with⟨rfl,_⟩|⟨g,cap,cur,rfl,_⟩
  ·exact⟨none,0,0,rfl⟩
  ·exact⟨_,_,_,rfl⟩
 ·have mX:=hx.ext e;have eB:db i≠mb i:=λe=>by
   have h1:=mX.clu.b i hi;rw[e,mX.clu.m i hi]at h1;cases h1
  exact q3p (R:=λv w=>nU (λ_=>True) w v (m i) (rows i)) (ja:=λF v w=>nU F w v (m i) (rows i)) (hF.ext e) (hx.Fd i hi) (hx.Fm i hi) eB (mX.clu.b i hi) (mX.clu.m i hi) (jA i hi) (wI i hi) (λv w τ h=>h.ext λ_ _=>rfl) (λρ v v' w w' h1 h2 h3=>q90 h1 h2 h3)
   (λF F' v w h k=>⟨h.1,h.2.imp id λ⟨g,cap,cur,h1,h2,h3⟩=>⟨g,cap,cur,h1,k g h2,h3⟩⟩) c cs
end
noncomputable def P0:Code:=match vG with|.seq a _=>a|_=>.skip
noncomputable def P1:Code:=match vG with|.seq _ (.seq a _)=>a|_=>.skip
noncomputable def P3:Code:=match vG with|.seq _ (.seq _ (.seq a _))=>a|_=>.skip
theorem q4h:vG=.seq P0 (.seq P1 (.seq P3 (.seq (.region 4 R4 false) AQ))):=rfl
noncomputable def R5:Array Oper:=match AQ with|.seq (.seq a _) _=>rg a|_=>#[]
theorem YW:AQ=.seq (.seq (.region 5 R5 false) (.block 0 (.loop sL))) sR:=rfl
theorem okP0:codeOk XG.P XG.P fb true P0=true:=by kernel_rfl
theorem okP1:codeOk XG.P XG.P fb true P1=true:=by kernel_rfl
theorem okP3:codeOk XG.P XG.P fb true P3=true:=by kernel_rfl
def S0 (cl:Nat) (s t:ByteArray) (most:Int) (n:Nat) (gM Qx Qw:ag):Array ag:=
 #[.pointer (some ⟨cl,0,none⟩),.string s,.string t,.int .i64 most,.pointer (some ⟨n,0,none⟩),.pointer (some ⟨n+1,0,none⟩),.pointer (some ⟨n+1+1,0,none⟩),ac,.slice none 0 0,.int .i64 0,gM,ac,ac,ac,ac,ac,Qx,Qw,ac,ac,ac,ac,ac,ac,ac,ac,ac,ac,ac,ac,ac,ac,ac,ac,ac,ac,ac,ac,ac,ac,ac,ac]
structure HE (h:Array Obj) (w w':ae):Prop where
 heap:w'.heap=h
 os:w'.os=w.os
 output:w'.output=w.output
theorem HE.same {h:Array Obj} {w2:ae} (k:HE h w w1) (s:Same w1 w2):HE h w w2:=⟨s.heap.trans k.heap,s.os.trans k.os,s.output.trans k.output⟩
def H0 (cl:Nat) (s t:ByteArray) (w:ae):Array Obj:=((w.heap.push (.cells #[.pointer (some ⟨cl,0,none⟩)] 40)).push (.cells #[.string s] 9)).push (.cells #[.string t] 9)
def H1 (cl:Nat) (s t:ByteArray) (w:ae):Array Obj:=(H0 cl s t w).push (.cells #[.slice none 0 0,.slice none 0 0,.slice none 0 0,.slice none 0 0] 112)
theorem L6 {t:ByteArray}:(H0 cl s t w).size=w.heap.size+3:=by simp[H0]
theorem q5d {t:ByteArray}:(H1 cl s t w).size=w.heap.size+4:=by simp[H1,L6]
section
variable {cl:Nat} {s t:ByteArray} {most:Int} {w:ae} {Q:Exit->Act->ae->Prop} {gM Qx Qw:ag} {n:Nat}
theorem jjv (h:Q .normal ⟨S0 cl s t most w.heap.size ac ac ac,[]⟩ (((w.alloc (.cells #[.pointer (some ⟨cl,0,none⟩)] 40)).alloc (.cells #[.string s] 9)).alloc (.cells #[.string t] 9))):
  Code.wp prog P0 Q ⟨#[.pointer (some ⟨cl,0,none⟩),.string s,.string t,.int .i64 most,ac,ac,ac,ac,ac,ac,ac,ac,ac,ac,ac,ac,ac,ac,ac,ac,ac,ac,ac,ac,ac,ac,ac,ac,ac,ac,ac,ac,ac,ac,ac,ac,ac,ac,ac,ac,ac,ac],[]⟩ w:=by
 unfold P0 vG;unfold S0 at h;simp only[Tryz.f27,cW];go_wp2;exact h
theorem jjw (h0:0<=most) (h:Q .normal ⟨S0 cl s t most n ac (.int .i64 most) (.bool false),[]⟩ w):Code.wp prog P1 Q ⟨S0 cl s t most n ac ac ac,[]⟩ w:=by
 unfold P1 vG;unfold S0 at*;simp only[Tryz.f27,cW];have hd:decide (most<0)=false:=zu (by omega);clear h0;go_wp2;exact h
theorem jjx (h:Q .normal ⟨S0 cl s t most n (.pointer (some ⟨w.heap.size,0,none⟩)) (.int .i64 most) (.bool false),[]⟩ (w.alloc (.cells #[.slice none 0 0,.slice none 0 0,.slice none 0 0,.slice none 0 0] 112))):
  Code.wp prog P3 Q ⟨S0 cl s t most n ac (.int .i64 most) (.bool false),[]⟩ w:=by
 unfold P3 vG;unfold S0 at*;simp only[Tryz.f27,cW];go_wp2;exact h
end
section
variable {N:Blocks} {kv:List ag} {cl:Nat} {s t:ByteArray} {most:Int} {w:ae} {cs eT:List am} {Z:am->ae->Prop}
theorem YU (h0:0<=most) (h1:most<=9223372036854775807)
  (nx:∀w1,HE (H1 cl s t w) w w1->ql N kv cs (bS.at ⟨S0 cl s t most w.heap.size (.pointer (some ⟨w.heap.size+3,0,none⟩)) (.int .i64 most) (.bool false),[]⟩ (.inRegion R4 [0]::[.code AQ])) w1 eT Z):
  ql N kv cs (av XG.P fS #[.pointer (some ⟨cl,0,none⟩),.string s,.string t,.int .i64 most] .normal) w eT Z:=by
 have he:av XG.P fS #[.pointer (some ⟨cl,0,none⟩),.string s,.string t,.int .i64 most] .normal=bS.at ⟨#[.pointer (some ⟨cl,0,none⟩),.string s,.string t,.int .i64 most,ac,ac,ac,ac,ac,ac,ac,ac,ac,ac,ac,ac,ac,ac,ac,ac,ac,ac,ac,ac,ac,ac,ac,ac,ac,ac,ac,ac,ac,ac,ac,ac,ac,ac,ac,ac,ac,ac],[]⟩ [.code vG]:=by
  show av prog fS _ .normal=_;rw[enter_at _ func27 (show Tryz.f27.body=some vG from rfl)];have hn:Tryz.f27.ntmps=42:=rfl;rw[hn];simp only[bj,cM,List.length_nil,aL,Nat.reduceSub,Array.replicate_succ,Array.replicate_zero,List.push_toArray,List.append_toArray,List.nil_append,List.cons_append];rfl
 rw[he,q4h];refine ql.seq ?_;refine ql.code rfl (Q:=λe a w'=>e=.normal/\a=⟨S0 cl s t most w.heap.size ac ac ac,[]⟩/\HE (H0 cl s t w) w w') okP0 (by rintro e a w ⟨rfl,_⟩;trivial) (λe a w wc s h=>⟨h.1,h.2.1,h.2.2.same s⟩) (λwc hs=>?_) ?_
 ·refine jjv ⟨rfl,?_,?_⟩
  ·rw[hs.heap]
  ·refine⟨?_,hs.os,hs.output⟩;show((wc.heap.push _).push _).push _=_;rw[hs.heap];rfl
 rintro _ _ w1 fr ⟨rfl,rfl,Da⟩ rfl;refine ql.seq ?_;refine ql.code rfl (Q:=λe a w'=>e=.normal/\a=⟨S0 cl s t most w.heap.size ac (.int .i64 most) (.bool false),[]⟩/\HE (H0 cl s t w) w w') okP1 (by rintro e a w ⟨rfl,_⟩;trivial) (λe a w wc s h=>⟨h.1,h.2.1,h.2.2.same s⟩) (λwc hs=>?_) ?_
 ·exact jjw h0 ⟨rfl,rfl,Da.same hs⟩
 rintro _ _ w2 fr ⟨rfl,rfl,qW⟩ rfl;refine ql.seq ?_;refine ql.code rfl (Q:=λe a w'=>e=.normal/\a=⟨S0 cl s t most w.heap.size (.pointer (some ⟨w.heap.size+3,0,none⟩)) (.int .i64 most) (.bool false),[]⟩/\HE (H1 cl s t w) w w') okP3 (by rintro e a w ⟨rfl,_⟩;trivial) (λe a w wc s h=>⟨h.1,h.2.1,h.2.2.same s⟩) (λwc hs=>?_) ?_
 ·have hz:wc.heap.size=w.heap.size+3:=by rw[hs.heap,qW.heap,L6]
  refine jjx ⟨rfl,?_,?_⟩
  ·rw[hz]
  ·refine⟨?_,hs.os.trans qW.os,hs.output.trans qW.output⟩;show wc.heap.push _=_;rw[hs.heap,qW.heap];rfl
 rintro _ _ w3 fr ⟨rfl,rfl,GX⟩ rfl;refine ql.seq ?_;refine ql.region ?_;exact nx w3 GX
end
theorem Md {F:aC->Prop} {ρ:Rel}:∀{l:List ag},(∀x∈l,VR F ρ x x)->zi F ρ l l
 |[],_=>.nil
 |_::_,h=>.cons (h _ (.head _)) (Md λx hx=>h x (.tail _ hx))
theorem jhl {C:Nat} (hS:¬SB C) (hB:C<B):EvZ SB B ⟨.cell ⟨C,i,none⟩,false,false⟩:=
 U9 (F:=λb=>b=C) (O:=λ_=>False) ⟨rfl,rfl,λh=>by cases h⟩ (λb h=>by rw[h];exact hS) (λb h=>by rw[h];exact hB)
section
variable {SB:Blocks} {Z:am->ae->Prop} {k:List Item} {cs:List am} {ρ0:Rel} {w0:ae} {lv:Nat->ag} {m:Nat->Nat} {rows:Nat->List ag} {most:Nat} {Gb:Blocks} {C:Nat} {T:Array ag}
theorem tAll (Hy:T.getD 3 ac=.int .i64 most) (Qj:T.getD 10 ac=.pointer (some ⟨C,0,none⟩)) (eU:T.size=42) (hc:∀i,i<4->w0.cell? ⟨C,i,none⟩=some (lv i)) (hC:C<w0.heap.size) (hCS:¬SB C)
  (hw:WR XG ρ0 w0 w0) (oz:NB w0) (zU:∀b,rng ρ0 b->¬SB b)
  (hG:∀b,Gb b->b<w0.heap.size/\ρ0 b b) (hr:∀i,i<4->nU Gb w0 (lv i) (m i) (rows i)) (Bz:∀b,SB b->b<w0.heap.size) (hm:∀i,i<4->m i<=268435456) (Eh:most<=9223372036854775807)
  (hZ:∀T' pE ρ' w',TlS ρ0 w0 SB (kN most m rows 4).1 (kN most m rows 4).2 pE ρ' w'->T'.size=42->T'.getD 8 ac=pE->T'.getD 9 ac=.int .i64 0->∀d,Z {bS.at ⟨T',[]⟩ (.code .ret::k)with mode:=.returning} (w'.at d)):
  BGo cs (bS.at ⟨T,[]⟩ (.code sT::k)) w0 SB Z:=by
 refine BGo.sil jkg ?_;have OD:TH (T.setIfInBounds 13 (.slice none 0 0)) [(13,.slice none 0 0),(10,.pointer (some ⟨C,0,none⟩)),(3,.int .i64 most)]:=
  TH.set (l:=[(10,.pointer (some ⟨C,0,none⟩)),(3,.int .i64 most)]) ⟨eU,λp hp=>by
   rcases aE.1 hp with rfl|hp
   ·exact Qj
   ·rcases aE.1 hp with rfl|hp
    ·exact Hy
    ·cases hp⟩ _ (by decide) (by simp)
 generalize T.setIfInBounds 13 (.slice none 0 0)=T1 at OD⊢;obtain⟨o,ho,dW,hd,hg⟩:∃o,R13[0]?=some o/\o.op=.load 112 (.tmp 10)/\o.dst=some 25/\o.guard=none:=⟨_,rfl,rfl,rfl,rfl⟩
 have dU:aa o (az R13 (ah T1 []).tmps)=true:=by unfold aa;rw[hg]
 have xN:(ah T1 []).eval (.tmp 10)=.pointer (some ⟨C,0,none⟩):=OD.2 (10,.pointer (some ⟨C,0,none⟩)) (by simp);have ev:∀d,(ai (ah T1 []).eval o).run prog (w0.at d)=.ok (.value (.agg #[lv 0,lv 1,lv 2,lv 3])) (w0.at d)/\(ai (ah T1 []).eval o).events prog (w0.at d) #[]=#[⟨.cell ⟨C,0,none⟩,false,false⟩,⟨.cell ⟨C,1,none⟩,false,false⟩,⟨.cell ⟨C,2,none⟩,false,false⟩,⟨.cell ⟨C,3,none⟩,false,false⟩]:=λd=>by
  have h0:(w0.at d).cell? ⟨C,0,none⟩=some (lv 0):=hc 0 (by decide);have h1:(w0.at d).cell? ⟨C,1,none⟩=some (lv 1):=hc 1 (by decide);have h2:(w0.at d).cell? ⟨C,2,none⟩=some (lv 2):=hc 2 (by decide);have h3:(w0.at d).cell? ⟨C,3,none⟩=some (lv 3):=hc 3 (by decide);generalize (ah T1 []).eval=e at*;generalize w0.at d=w at*;unfold ai;constructor
  ·simp[go_sem,dW,xN,h0,h1,h2,h3]
  ·simp[go_sem,dW,xN,h0,h1,h2,h3]
 refine BGo.one rfl λd=>⟨_,w0.at d,_,bd ho dU (by decide) (ev d).1,ji _,λe he=>?_,?_⟩
 ·have:=bq he;rw[(ev d).2]at this;simp at this;rcases this with rfl|rfl|rfl|rfl<;>exact jhl hCS hC
 rw[hd];have KJ:TH (T1.setIfInBounds 25 (.agg #[lv 0,lv 1,lv 2,lv 3])) [(25,.agg #[lv 0,lv 1,lv 2,lv 3]),(13,.slice none 0 0),(3,.int .i64 most)]:=OD.set _ (by decide) (by simp);change BGo cs (bS.at ⟨T1.setIfInBounds 25 (.agg #[lv 0,lv 1,lv 2,lv 3]),[]⟩ (.inRegion R13 [1]::_)) _ _ _;generalize T1.setIfInBounds 25 (.agg #[lv 0,lv 1,lv 2,lv 3])=T2 at KJ⊢;obtain⟨o1,vT,iY,hd1,kE⟩:∃o,R13[1]?=some o/\o.op=.move (.const (.int .i64 0))/\o.dst=some 26/\o.guard=none:=⟨_,rfl,rfl,rfl,rfl⟩
 refine BGo.val KJ (.int .i64 ((0:Nat):Int)) vT hd1 kE (by decide) (l':=[(25,.agg #[lv 0,lv 1,lv 2,lv 3]),(13,.slice none 0 0),(3,.int .i64 most)]) (by simp) (λe he hc w=>?_) λT3 Hy=>?_
 ·have bc:=hc (.int .i64 0);unfold ai;constructor
  ·simp[go_sem,iY,bc]
  ·simp[go_sem,iY,bc]
 refine BGo.sil (Sil.ctl (λw1=>au) (Sil.ctl (λw1=>bB) (Sil.ctl (λw1=>stepG_loop) (.refl _ _)))) ?_;have NW:TlS ρ0 w0 SB (kN most m rows 0).1 (kN most m rows 0).2 (.slice none 0 0) ρ0 (w0.at d):=
  TlS.at ⟨Rel.le_refl ρ0,hw,.j6 _ _,oz,World.ownsRow_nil _ _ _ _,λ_ _=>rfl,ji _,zU,rfl,rfl⟩ d
 refine jke (fs:=#[lv 0,lv 1,lv 2,lv 3]) (lv:=lv) (λi hi=>?_) hG hr Bz hm Eh (λT' pE ρ' w' h' uY=>?_) 4 0 rfl T3 _ ρ0 _ NW (Hy.sub (by simp))
 ·match i,hi with
  |0,_=>rfl
  |1,_=>rfl
  |2,_=>rfl
  |3,_=>rfl
 ·refine BGo.sil (tEnd uY.1 (uY.2 (13,pE) (by simp))) (BGo.done λd=>?_);refine hZ _ pE ρ' w' h' (by simp[uY.1]) ?_ ?_ d
  ·rw[qy (by decide)];exact vw (by simp[uY.1])
  ·exact vw (by simp[uY.1])
end
theorem q34 {T:Array ag}:(results Tryz.f27 T).runT prog w #[]=(.ok (.tuple #[T.getD 8 ac,T.getD 9 ac]) w,#[]):=by
 have e:Tryz.f27.results=#[.tmp 8,.tmp 9]:=rfl;simp[results,e,go_sem]
section
variable {N:Blocks} {kv:List ag} {cl:Nat} {db mb:Nat->Nat} {es:Nat->Array bu} {ck:Nat->Nat} {s t:ByteArray} {m:Nat->Nat} {rows:Nat->List ag} {w:ae} {most:Nat}
theorem F3 {Fp:aC->Prop} {T:Array ag} {b o:Nat} (h:zi Fp ρ T.toList T.toList) (e:T.getD j ac=.pointer (some ⟨b,o,none⟩)):ρ b b:=by
 have:=zi.Em h j;rw[e]at this;cases this with
 |ptr h=>exact h
theorem ZU (J3:qN cl db mb es ck w) (jA:∀i,i<4->∀(F:aC->Prop) ρ,EsR F ρ (es i).toList (es i).toList)
  (wI:∀i,i<4->∀wl,wl.heap[db i]?=some (.cells #[.map (some (mb i))] 142 (0,1))->wl.heap[mb i]?=some (.map (es i) (ck i))->bU prog 56 #[.pointer (some ⟨db i,0,none⟩),.string s,.string t] wl fun|.returned v,w'=>nU (λ_=>True) w' v (m i) (rows i)|_,_=>False)
  (hm:∀i,i<4->m i<=268435456) (Eh:most<=9223372036854775807) (hN:∀b,N b->b<w.heap.size):
  uJ N kv fS #[.pointer (some ⟨cl,0,none⟩),.string s,.string t,.int .i64 most] w λv w'=>
   ∃ov,v=.tuple #[ov,.int .i64 0]/\w'.ownsRow w.heap.size 74 2 ov (kN most m rows 4).1 (kN most m rows 4).2/\(∀b,b<w.heap.size->w'.heap[b]?=w.heap[b]?)/\w.heap.size<=w'.heap.size/\w'.os=w.os/\w'.output=w.output:=by
 intro c cs;refine YU (most:=(most:Int)) (by omega) (by omega) λw3 GX=>?_;intro wc hs gs sl t0 SB ρ' q Qe hNS hK0;have gQ:=Qe.diag;have hK:∀v∈kv,VR XG.F (dg ρ') v v:=λv hv=>(hK0 v hv).right;have E8:∀a b,dg ρ' a b->a=b:=λa b h=>h.1;generalize dg ρ'=ρ at gQ E8 hK;have ET:wc.heap=H1 cl s t w:=hs.heap.trans GX.heap;have NV:wc.heap.size=w.heap.size+4:=by rw[ET,q5d]
 have old:∀b,b<w.heap.size->wc.heap[b]?=w.heap[b]?:=λb hb=>by
  rw[ET];unfold H1 H0;rw[aj,if_neg (by simp;omega),aj,if_neg (by simp;omega),aj,if_neg (by simp;omega),aj,if_neg (by omega)]
 have Kb:qN cl db mb es ck wc:=J3.old old;have hcb:wc.heap[w.heap.size]?=some (.cells #[.pointer (some ⟨cl,0,none⟩)] 40):=by
  rw[ET];unfold H1 H0;rw[aj,if_neg (by simp;omega),aj,if_neg (by simp;omega),aj,if_neg (by simp),aj,if_pos rfl]
 have gG:wc.heap[w.heap.size+1]?=some (.cells #[.string s] 9):=by
  rw[ET];unfold H1 H0;rw[aj,if_neg (by simp),aj,if_neg (by simp),aj,if_pos (by simp)]
 have Ku:wc.heap[w.heap.size+1+1]?=some (.cells #[.string t] 9):=by
  rw[ET];unfold H1 H0;rw[aj,if_neg (by simp),aj,if_pos (by simp)]
 have hCb:wc.heap[w.heap.size+3]?=some (.cells #[.slice none 0 0,.slice none 0 0,.slice none 0 0,.slice none 0 0] 112):=by
  rw[ET];unfold H1;rw[aj,if_pos (by rw[L6])]
 -- what is reached
 have tm:zi XG.F ρ (S0 cl s t most w.heap.size (.pointer (some ⟨w.heap.size+3,0,none⟩)) (.int .i64 most) (.bool false)).toList (S0 cl s t most w.heap.size (.pointer (some ⟨w.heap.size+3,0,none⟩)) (.int .i64 most) (.bool false)).toList:=(gQ.fr rfl).tmps;have QH:ρ cl cl:=F3 (j:=0) tm rfl;have X0:ρ w.heap.size w.heap.size:=F3 (j:=4) tm rfl;have X3:ρ (w.heap.size+1) (w.heap.size+1):=F3 (j:=5) tm rfl;have XV:ρ (w.heap.size+1+1) (w.heap.size+1+1):=F3 (j:=6) tm rfl;have rC:ρ (w.heap.size+3) (w.heap.size+3):=F3 (j:=10) tm rfl;have QG:∀i,i<4->ρ (db i) (db i):=λi hi=>by
  obtain⟨v',h1,h2⟩:=gQ.wr.cell (a:=⟨cl,1+i*3+1,none⟩) (a':=⟨cl,1+i*3+1,none⟩) ⟨QH,rfl,rfl⟩ (Kb.d i hi);rw[Kb.d i hi]at h1;cases h1;cases h2 with|ptr h=>exact h
 have XY:∀i,i<4->ρ (mb i) (mb i):=λi hi=>by
  have jK:wc.cell? ⟨db i,0,none⟩=some (.map (some (mb i))):=by simp[aG,Kb.b i hi]
  obtain⟨v',h1,h2⟩:=gQ.wr.cell (a:=⟨db i,0,none⟩) (a':=⟨db i,0,none⟩) ⟨QG i hi,rfl,rfl⟩ jK;rw[jK]at h1;cases h1;cases h2 with|map h=>exact h
 have Eb:∀b,rng ρ b->b<wc.heap.size:=λb ⟨a,h⟩=>(gQ.wr.bound h).2
 -- the group
 obtain⟨lK,d1,jC,t1,q1,h1,z1,g1,L1,p1,WJ,wM⟩:=qt0 (SB:=SB) (sl:=sl) gQ.g0 gQ.leavers gQ.past;rw[NV]at WJ wM
 -- to the Qt head
 let Ta:Array ag:=(S0 cl s t most w.heap.size (.pointer (some ⟨w.heap.size+3,0,none⟩)) (.int .i64 most) (.bool false)).setIfInBounds 11 (.pointer (some ⟨w.heap.size+4,0,none⟩))
 have g1:lK[0]?=some (G (bS.at ⟨Ta,[]⟩ (.inRegion R4 []::[.code AQ])) (c::cs)):=by rw[NV]at g1;exact g1
 let w4:ae:=wU (wc.at d1)
 have JJ:∀b,b<wc.heap.size->w4.heap[b]?=wc.heap[b]?:=λb hb=>by
  show(wc.heap.push _)[b]?=_;rw[aj,if_neg (by omega)]
 have hz4:w4.heap.size=w.heap.size+5:=by
  show(wc.heap.push _).size=_;rw[Array.size_push,NV]
 have hz4':(wU (wc.at d1)).heap.size=w.heap.size+5:=hz4
 let F:Blocks:=λb=>rng ρ b/\b≠w.heap.size+3
 have xY:FOk F (λ_=>False) w4:=⟨λb hb=>by have:=Eb b hb.1;omega,λ_ h=>h.elim⟩
 have dY:=J3.ltc;have Nt:∀{b:Nat} {v:ag} {ty:cH},b<wc.heap.size->wc.heap[b]?=some (.cells #[v] ty)->w4.cell? ⟨b,0,none⟩=some v:=λ{b v ty} hb e=>by
  simp[aG,JJ b hb,e]
 have hFx:FxS cl db mb es ck w.heap.size (w.heap.size+1) (w.heap.size+1+1) s t F w4:=
  ⟨Kb.old JJ,Nt (by omega) hcb,Nt (by omega) gG,Nt (by omega) Ku,⟨⟨_,X0⟩,by omega⟩,⟨⟨_,X3⟩,by omega⟩,⟨⟨_,XV⟩,by omega⟩,⟨⟨_,QH⟩,by omega⟩,λi hi=>⟨⟨_,QG i hi⟩,by have:=J3.ltd i hi;omega⟩,λi hi=>⟨⟨_,XY i hi⟩,by have:=J3.ltm i hi;omega⟩⟩
 have hnW:¬F (w.heap.size+4):=λh=>by have:=Eb _ h.1;omega
 have hH:ScH (.int .i64 most) w.heap.size (w.heap.size+1) (w.heap.size+1+1) (w.heap.size+3) (w.heap.size+4) 0 (Ta.setIfInBounds 18 (.int .i64 ((0:Nat):Int))):=⟨rfl,rfl,rfl,rfl,rfl,rfl,rfl,rfl⟩
 have Hw:WG prog true (Scr prog link.tWg (w.heap.size+4) (w.heap.size+3) 4 (λi F v w=>nU F w v (m i) (rows i)) (KS (.int .i64 most) w.heap.size (w.heap.size+1) (w.heap.size+1+1) (w.heap.size+3) (w.heap.size+4) [] (c::cs)) 4) F (λ_=>False) (G (bS.at ⟨Ta,[]⟩ (.inRegion R4 []::[.code AQ])) (c::cs)) w4:=by
  refine WG.ctl rfl xY (λw1=>au) ?_;rw[YW];refine WG.ctl rfl xY (λw1=>aD) ?_;refine WG.ctl rfl xY (λw1=>aD) ?_;refine WG.ctl rfl xY (λw1=>aA) ?_;change WG _ _ _ _ _ (G (bS.at ⟨Ta,[]⟩ (.inRegion R5 [0]::_)) (c::cs)) w4;obtain⟨o,ho,dW,hd,hg⟩:∃o,R5[0]?=some o/\o.op=.move (.const (.int .i64 0))/\o.dst=some 18/\o.guard=none:=⟨_,rfl,rfl,rfl,rfl⟩
  have dU:aa o (az R5 (ah Ta []).tmps)=true:=by unfold aa;rw[hg]
  refine WG.value (.int .i64 ((0:Nat):Int)) xY ho dU (by decide) (λw1 _=>?_) ?_
  ·have bc:(ah Ta []).eval (.const (.int .i64 0))=.int .i64 0:=rfl;generalize (ah Ta []).eval=e at*;unfold ai;constructor
   ·simp[go_sem,dW,bc]
   ·simp[go_sem,dW,bc]
  rw[hd];change WG _ _ _ _ _ (G (bS.at ⟨Ta.setIfInBounds 18 (.int .i64 ((0:Nat):Int)),[]⟩ (.inRegion R5 []::_)) (c::cs)) w4;refine WG.ctl rfl xY (λw1=>au) ?_;refine WG.ctl rfl xY (λw1=>bB) ?_;refine WG.ctl rfl xY (λw1=>stepG_loop) ?_;exact starter (Fx:=FxS cl db mb es ck w.heap.size (w.heap.size+1) (w.heap.size+1+1) s t) (λF w w1 h e=>h.ext e) (λF F' w h k=>h.sub k)
   (λi hi F w kb hx hF hk hc=>ZV (m:=m) (rows:=rows) (by omega) jA wI i hi F w kb hx hF hk hc) (λF O w T hT hF _ _=>jka hT hF) 4 0 rfl _ F (λ_=>False) w4 hH xY hFx hnW (by omega)
 have mG:PayAt (w.heap.size+3) 4 w4:=⟨_,(JJ _ (by omega)).trans hCb,rfl⟩
 have Ei:=gQ.foot;obtain⟨N3,gs3,a3,w5,QD,t3,D,FM,q3,h3,hJ⟩:=phase (P:=prog) (ty:=link.tWg) (Wg:=w.heap.size+4) (C:=w.heap.size+3) (n:=4) (SB:=SB) (ja:=λi F v w=>nU F w v (m i) (rows i)) (L0:=w.heap.size+3) (sl:=jC) (λi F v w w1 h e=>h.ext e.keep) (by decide) g1 L1 p1 wM Hw WJ mG
  (λb hb=>⟨by have:=Eb b hb.1;omega,by have:=Eb b hb.1;omega,hb.2,Ei.apart b hb.1⟩) (λ_ h=>h.elim) (by omega) (by omega) (λb hb=>by have:=Ei.low b hb;omega) (by omega) (λh=>by have:=Ei.low _ h;omega) (λh=>Ei.apart _ ⟨_,rC⟩ h) (by omega) (ji _) (λ_ h=>h.elim)
 obtain⟨N4,WY,T,d4,QC,t4,q4,h4,z4,g4,hT,L4,p4⟩:=qs9 (sl:=QD) hJ
 -- the tail
 let w6:ae:=w5.at d4
 have Nq:∀b,b<w.heap.size+3->w6.heap[b]?=wc.heap[b]?:=λb hb=>(hJ.kept.keep b hb).trans (JJ b (by omega))
 let Gb:Blocks:=λb=>∃i n cap,i<4/\(D i).val=.slice (some ⟨b,0,none⟩) n cap
 let ρ0:Rel:=λa b=>ρ a b\/(a=b/\Gb b)
 have VZ:ρ.le ρ0:=λ_ _ h=>.inl h;have GA:∀a b,ρ0 a b->a=b:=λa b h=>h.elim (E8 a b) (·.1);have nG:∀i,i<4->nU Gb w6 (D i).val (m i) (rows i):=λi hi=>by
  have h:=(hJ.res i hi).1;refine⟨h.1,h.2.imp id ?_⟩;rintro⟨g,cap,cur,k1,k2,k3⟩;exact⟨g,cap,cur,k1,⟨i,_,_,hi,k1⟩,k3⟩
 have OI:∀b,Gb b->∃cur,w6.heap[b]?=some (.cells cur 74 (0,0))/\(∀x∈cur.toList,∃s,x=.string s)/\b<w6.heap.size/\b≠w.heap.size+4/\¬SB b:=by
  rintro b ⟨i,n,cap,hi,e⟩;have h:=(hJ.res i hi).1;rcases h.2 with⟨e2,_⟩|⟨g,Qp,cur,e2,k2,k3,_,_,_,k6⟩
  ·rw[e]at e2;cases e2
  ·rw[e]at e2;cases e2;have:=hJ.sep.wF i hi b k2;exact⟨cur,k3,k6,this.1,this.2.1,this.2.2.2⟩
 have jK:∀i,i<4->w6.cell? ⟨w.heap.size+3,i,none⟩=some (D i).val:=λi hi=>(hJ.res i hi).2;obtain⟨pc,GZ,Od⟩:=hJ.pay;have GZ:w6.heap[w.heap.size+3]?=some (.cells pc Payload.ety):=GZ;have Ae:∀i,i<4->VR XG.F ρ0 (D i).val (D i).val:=λi hi=>by
  rcases(nG i hi).2 with⟨e,_⟩|⟨g,cap,cur,e,k1,_⟩
  ·rw[e];exact .j6 _ _
  ·rw[e];exact .slice (.inr ⟨rfl,k1⟩)
 have vS:WR XG ρ0 w6 w6:=by
  refine⟨λh1 h2=>(GA _ _ h1).symm.trans (GA _ _ h2),λh1 h2=>(GA _ _ h1).trans (GA _ _ h2).symm,λ{a b} gG=>?_,λ_ _=>rfl,λa h=>h.elim⟩;obtain rfl:=GA a b gG;rcases gG with gG|⟨_,hb⟩
  ·by_cases e:a=w.heap.size+3
   ·subst e;refine⟨_,_,GZ,GZ,.cells (Md λx hx=>?_) (.inl rfl)⟩;obtain⟨j,hj,e⟩:=List.mem_iff_getElem.1 hx;have zR:j<4:=by simpa[Od]using hj
    have:=jK j zR;simp only[aG,GZ]at this;have gX:pc[j]?=some x:=by rw[<-e];simp
    rw[gX]at this;cases this;exact Ae j zR
   ·obtain⟨o,o',k1,k2,k3⟩:=gQ.wr.heap gG;have DT:a<w.heap.size+3:=by have:=Eb a ⟨_,gG⟩;omega
    exact⟨o,o',(Nq a DT).trans k1,(Nq a DT).trans k2,k3.mono VZ⟩
  ·obtain⟨cur,k1,k2,_⟩:=OI a hb;refine⟨_,_,k1,k1,.cells (Md λx hx=>?_) (.inl rfl)⟩;obtain⟨s,rfl⟩:=k2 x hx;exact .string s
 have hz6:w.heap.size+5<=w6.heap.size:=by
  have:=hJ.sep.lW;show _<=w5.heap.size;omega
 have PS:NB w4:=NB.push (w:=wc.at d1) (λ_ _ e=>by cases e) gQ.nb;have zU:∀b,rng ρ0 b->¬(SB b\/b=w.heap.size+4):=by
  rintro b ⟨a,gG|⟨_,hb⟩⟩ hs
  ·rcases hs with hs|hs
   ·exact Ei.apart b ⟨a,gG⟩ hs
   ·have:=Eb b ⟨a,gG⟩;omega
  ·obtain⟨_,_,_,_,k1,k2⟩:=OI b hb;rcases hs with hs|hs
   ·exact k2 hs
   ·exact k1 hs
 have Bz:∀b,(SB b\/b=w.heap.size+4)->b<w6.heap.size:=by
  rintro b (hb|hb)
  ·have:=Ei.low b hb;omega
  ·omega
 have Qg:=tAll (SB:=λb=>SB b\/b=w.heap.size+4) (k:=[]) (cs:=c::cs) (ρ0:=ρ0) (w0:=w6) (lv:=λi=>(D i).val) (m:=m) (rows:=rows) (most:=most) (Gb:=Gb) (C:=w.heap.size+3) (T:=T.setIfInBounds 24 (.tuple #[]))
  (Z:=λfr w7=>∃ov ρ7,TlS ρ0 w6 (λb=>SB b\/b=w.heap.size+4) (kN most m rows 4).1 (kN most m rows 4).2 ov ρ7 w7/\Leaves fr (.tuple #[ov,.int .i64 0]))
  ((qy (by decide)).trans hT.t3) ((qy (by decide)).trans hT.t10) (by simp[hT.size]) jK (by omega) (λh=>zU _ ⟨_,.inl rC⟩ h) vS (hJ.kept.nb PS) zU (λb hb=>⟨(let⟨_,_,_,k,_⟩:=OI b hb;k),.inr ⟨rfl,hb⟩⟩) nG Bz hm Eh
  (λT' pE ρ7 w7 h7 hs7 h8 h9 d=>⟨pE,ρ7,h7.at d,⟨rfl,rfl,rfl,_,func27,λw=>by
   have:=q34 (w:=w) (T:=T');rw[h8,h9]at this
   exact this⟩⟩)
 obtain⟨gs7,fr7,w7,XU,t7,q7,h7,z7,⟨ov,ρ7,wu,oC⟩,g7,L7,p7⟩:=Qg d4 WY QC t4 q4 g4 L4 p4;have Pz:Sil prog fr7 (c::cs) (c.finish (.tuple #[ov,.int .i64 0])) cs:=.step (λw=>Uk oC) (.refl _ _);obtain⟨gs8,d8,XT,t8,q8,h8,z8,g8,L8,p8⟩:=Pz.runs (sl:=XU) g7 L7 p7;have hle:ρ.le ρ7:=Rel.le_trans VZ wu.le;have Vu:=wu.at d8;refine⟨gs8,_,w7.at d8,XT,t8,_,ρ7,q8,?_,⟨_,rfl,ov,rfl,?_,λb hb=>?_,?_⟩,⟨g8,L8,p8,⟨wu.apart,λb hb=>xll (Bz b hb) wu.size,λb ⟨a,h,_⟩=>⟨a,h⟩,λb ⟨a,h⟩=>(Vu.wr.bound h).2⟩,?_,λc' nN hb=>(gQ.cs c' (.tail _ nN) hb).mono hle,Vu.wr,wu.nb⟩,λb hb hs=>hs.elim (hNS b hb) λe=>by have:=hN b hb;omega,λv hv=>(hK v hv).mono hle⟩
 ·exact(h1.trans ⟨N3,h3⟩).trans ((show Runs prog gs3 w5 QD t3 WY (w5.at d4) QC t4 from⟨N4,h4⟩).trans (h7.trans h8))
 ·have:=wu.own;refine⟨this.1,this.2.imp id ?_⟩;rintro⟨g,cap,cur,k1,k2,k3⟩;exact⟨g,cap,cur,k1,by omega,k3⟩
 ·exact(wu.keep b (by omega)).trans ((Nq b (by omega)).trans (old b hb))
 ·refine⟨?_,(wu.os.trans hJ.kept.os).trans (hs.os.trans GX.os),(wu.output.trans hJ.kept.output).trans (hs.output.trans GX.output)⟩;have:=wu.size;show _<=w7.heap.size;omega
 ·intro hb;exact FSt.finish ((gQ.cs c (.head _) (by rw[<-Frame.Tn c];exact hb)).mono hle) (.tuple (.cons wu.vr (.cons (.int _ _) .nil)))
end
end
section
open Go Go.Conc Go.ConcN Sim
theorem ZR {v:ag} (h:Leaves fr v) (hi:XG.P.inits.idxOf? fr.fn=none):aV XG.P true (G fr []) w=.ended (.done v) w #[]:=by
 obtain⟨hm,hd,hk,fn,hf,hr⟩:=h;rw[yj _ _ _ _ _ hm];obtain⟨Fg,IC,VE,FX,FD,FE,QF⟩:=fr;obtain rfl:FX=[]:=hd;obtain rfl:FD=.returning:=hm;obtain rfl:FE=.normal:=hk;have hf:XG.P.funcs[Fg]?=some fn:=hf;have hi:XG.P.inits.idxOf? Fg=none:=hi;have hr:(results fn IC).runT XG.P w #[]=(.ok v w,#[]):=hr w;unfold unwind;dsimp only;rw[hf];dsimp only;rw[hr];simp[doReturn,hi,GStep.after,seen]
theorem YC (W:ae):jD (λ_=>False) W 1 #[]:=
 ⟨⟨0,λsaid=>by rintro⟨i,j,_,⟨a,b,ha,_⟩,_⟩;simp[Trace.act?]at ha,λi a ha=>by simp[touchAt,Trace.act?]at ha,λi g hg=>by simp[Trace.g?]at hg,rfl,by simp⟩,by simp,λi a ha=>by simp[touchAt,Trace.act?]at ha,
  λi op x hi=>by simp at hi,by simp⟩
theorem q6l {W:ae} {Post:ag->ae->Prop} {N:Blocks} {kv:List ag} (h:ql N kv [] fr W [] (Ret f R)) (kR:FSb ρ fr) (vS:WR XG ρ W W) (pF:∀v∈kv,VR XG.F ρ v v) (hi:XG.P.inits.idxOf? f=none) (hp:∀v w wc,Same w wc->R v w->Post v wc):
  ∃M last o w' t',runNT XG.P (M+1) (solo (G fr []) W) #[]=(.ended o w',t')/\runN XG.P M (solo (G fr []) W)=.next last/\step XG.P last=.ended o w'/\Conc.Good XG.P Post last o w' t':=by
 have gQ:Co XG fb blG (λ_=>False) ρ #[G fr []] fr [] W #[] (λ_=>0):=
  ⟨rfl,leavers_one _ _,YC W,⟨λ_ _ h=>h,λ_ h=>h.elim,λb ⟨a,h,_⟩=>⟨a,h⟩,λb ⟨a,h⟩=>(vS.bound h).2⟩,kR,(λc hc=>by cases hc),vS,trivial⟩
 obtain⟨eX,eD,w',sl',t',O3,ρ',q',⟨N,hr⟩,⟨vY,v,hl,hv,hR⟩,hc,_,_⟩:=h W (Same.refl _) _ none _ _ _ _ gQ (λ_ _ h=>h) pF;obtain⟨B,hP⟩:=hc.past.past;obtain⟨N2,last,o,w2,t2,k1,k2,k3,k4⟩:=beside_ends (P:=XG.P) (D:=λ_ _ _=>False) (Post:=Post) (n:=0) (w:=w') (sl:=sl') (λ_ _ _ h=>h.elim) hc.g0 hc.leavers hP (λw1 Da=>by
  obtain⟨d,e⟩:=Da;subst e
  exact⟨rfl,v,#[],ZR hl (by rw[vY];exact hi),by simp,hp v _ _ (Same.at w' d) hR⟩)
 have eG:runNT XG.P (N+(N2+1)) (solo (G fr []) W) #[]=(.ended o w2,t2):=runNT_trans N hr k1;have e1:runN XG.P N (solo (G fr []) W)=.next (crowd eX w' sl'):=by
  rw[<-runNT_fst _ _ _ #[]];exact congrArg Prod.fst hr
 refine⟨N+N2,last,o,w2,t2,eG,?_,k3,k4⟩;have:runNT XG.P (N+N2) (solo (G fr []) W) #[]=runNT XG.P N2 (crowd eX w' sl') t':=runNT_trans N hr rfl;rw[<-runNT_fst _ _ _ #[],this,runNT_fst];exact k2
section
variable {N:Blocks} {kv:List ag} {cs eT:List am} {w:ae} {Z:am->ae->Prop} {b:am} {a:Act} {k:List Item}
end
section
variable {N:Blocks} {kv:List ag} {cs eT:List am} {w:ae} {Z:am->ae->Prop} {b:am} {a:Act} {k:List Item}
end
end
end Ph
section
open Go.RowKit
def letter (b:UInt8):Bool:=decide (97<=b.toNat)&&decide (b.toNat<=122)
def iT (l:List UInt8):Bool:=decide (0<l.length)&&(decide (l.length<=8)&&l.all letter)
def shd (b:Nat):Nat:=if b<=103 then 0 else if b<=109 then 1 else if b<=116 then 2 else 3
def je (l:List UInt8):Nat:=shd ((l.headD 0).toNat)
theorem qm9 (s:ByteArray) (k:Nat) (h:k<s.size):(s.data.toList.take (k+1)).all letter=((s.data.toList.take k).all letter&&letter s[k]):=by
 have:s.data.toList.take (k+1)=s.data.toList.take k++[s[k]]:=by
  rw[List.take_succ_eq_append_getElem (by simpa using h)];rfl
 rw[this,List.all_append];simp
def NQ (w:ae) (e:dC) (w':ae):Prop:=e=.returned (.tuple #[.int .i64 0,.bool false])/\bC w.heap.size w w'
def jgv (k:Nat) (w:ae) (e:dC) (w':ae):Prop:=e=.returned (.tuple #[.int .i64 k,.bool true])/\bC w.heap.size w w'
theorem toList_nil (h:s.size=0):s.toList=[]:=by
 rw[ByteArray.toList_eq];apply ay;simpa using h
theorem JB (h:0<s.size):s.toList.isEmpty=false:=by
 rw[ByteArray.toList_eq];cases e:s.data.toList with
 |nil=>
  have:s.data.toList.length=0:=by rw[e];rfl
  have h2:s.data.toList.length=s.size:=by simp
  omega
 |cons a l=>rfl
theorem q3g (s:ByteArray) (w:ae) (h:s.size=0\/8<s.size) (hs:s.size<=bh):bU prog 41 #[.string s] w (NQ w):=by
 unfold bh at hs;rcases h with h|h
 ·have N7:s.toList=[]:=toList_nil h;have jN:s.toList.isEmpty=true:=by rw[N7];rfl
  go_enter func41,ntmps41;go_wp2;go_ret2;exact⟨rfl,zk _ _⟩
 ·have jN:s.toList.isEmpty=false:=JB (by omega);have sj:decide ((8:Int)<s.size)=true:=by simp;omega
  go_enter func41,ntmps41;go_wp2;go_ret2;exact⟨rfl,zk _ _⟩
theorem ZL (b:UInt8):letter b=true↔97<=b.toNat/\b.toNat<=122:=by simp[letter]
theorem FP (s:ByteArray) (w:ae) (h:iT s.data.toList=true):bU prog 41 #[.string s] w (jgv (je s.data.toList) w):=by
 simp only[iT,aR,decide_eq_true_eq,bD,ZL]at h;obtain⟨h0,h8,hl⟩:=h;have h0:0<s.size:=by simpa using h0
 have h8:s.size<=8:=by simpa using h8
 have jN:s.toList.isEmpty=false:=JB h0;have sj:decide ((8:Int)<s.size)=false:=by simp;omega
 have HL:=Hd hl;clear hl;go_enter func41,ntmps41;go_wp2;go_loopw [5] (λ_ w'=>∃pos,pos<=s.size/\w'=w.iter s pos) (λ_ w'=>s.size-w'.iterPos w.heap.size);case atStart=>exact⟨0,xzl _,rfl⟩
 case round=>
  obtain⟨pos,hle,rfl⟩:=hrel;by_cases hp:pos<s.size
  ·have dY:=HL.o s[pos] (by simp[bg]);have ha:(s[pos]'hp).toNat<128:=by omega
   have g1:decide (((s[pos]'hp).toNat:Int)<97)=false:=by simp;omega
   have g2:decide ((122:Int)<((s[pos]'hp).toNat:Int))=false:=by simp;omega
   have tX:∀ty,(Instr.next (.pointer (some ⟨w.heap.size,0,none⟩)) true ty).run prog (w.iter s pos)=_:=λty=>run_next_ascii w s pos ty hp ha;go_wp2;go_roundw;case rel=>exact⟨pos+1,by omega,rfl⟩
   case measure=>simp;omega
  ·have tX:∀ty,(Instr.next (.pointer (some ⟨w.heap.size,0,none⟩)) true ty).run prog (w.iter s pos)=_:=λty=>run_next_end w s pos ty hp;have hh:je s.data.toList=shd (s[0]'h0).toNat:=by
    unfold je;cases e:s.data.toList with
    |nil=>
     have:s.data.toList.length=s.size:=by simp
     rw[e]at this;simp at this;omega
    |cons a l=>
     have:s[0]=a:=by
      have h1:s[0]=s.data.toList[0]'(by simpa using h0):=by simp[bg]
      rw[h1];simp[e]
     rw[this];rfl
   have HH:=Hd hh;clear hh;have he:bC w.heap.size w (w.iter s pos):=(zk _ _).alloc (ji _) _;go_wp2;all_goals
    go_ret2;refine⟨?_,he⟩;rw[HH.o];unfold shd
   ·rw[if_pos (by omega)];rfl
   ·rw[if_neg (by omega),if_pos (by omega)];rfl
   ·rw[if_neg (by omega),if_neg (by omega),if_pos (by omega)];rfl
   ·rw[if_neg (by omega),if_neg (by omega),if_neg (by omega)];rfl
theorem jd2 (s:ByteArray) (w:ae) (h0:0<s.size) (h8:s.size<=8) (hl:¬s.data.toList.all letter=true):bU prog 41 #[.string s] w (NQ w):=by
 have jN:s.toList.isEmpty=false:=JB h0;have sj:decide ((8:Int)<s.size)=false:=by simp;omega
 have HL:=Hd hl;clear hl;go_enter func41,ntmps41;go_wp2;go_loopw [5] (λ_ w'=>∃pos,pos<=s.size/\w'=w.iter s pos/\(s.data.toList.take pos).all letter=true) (λ_ w'=>s.size-w'.iterPos w.heap.size);case atStart=>exact⟨0,xzl _,rfl,by simp⟩
 case round=>
  obtain⟨pos,hle,rfl,fH⟩:=hrel;have HA:=Hd fH;clear fH;by_cases hp:pos<s.size
  ·have he:bC w.heap.size w (w.iter s (pos+(Utf8.decode s pos).2)):=(zk _ _).alloc (ji _) _;by_cases ha:(s[pos]'hp).toNat<128
   ·have tX:∀ty,(Instr.next (.pointer (some ⟨w.heap.size,0,none⟩)) true ty).run prog (w.iter s pos)=_:=λty=>run_next_ascii w s pos ty hp ha;have he:bC w.heap.size w (w.iter s (pos+1)):=(zk _ _).alloc (ji _) _;by_cases h1:(s[pos]'hp).toNat<97
    ·have g1:decide (((s[pos]'hp).toNat:Int)<97)=true:=by simp;omega
     go_wp2;go_ret2;exact⟨rfl,he⟩
    ·have g1:decide (((s[pos]'hp).toNat:Int)<97)=false:=by simp;omega
     by_cases h2:122<(s[pos]'hp).toNat
     ·have g2:decide ((122:Int)<((s[pos]'hp).toNat:Int))=true:=by simp;omega
      go_wp2;go_ret2;exact⟨rfl,he⟩
     ·have g2:decide ((122:Int)<((s[pos]'hp).toNat:Int))=false:=by simp;omega
      have dY:letter s[pos]=true:=by simp[letter];omega
      have hn:(s.data.toList.take (pos+1)).all letter=true:=by rw[qm9 s pos hp,HA.o,dY];rfl
      have HN:=Hd hn;clear hn dY;go_wp2;go_roundw;case rel=>exact⟨pos+1,by omega,rfl,HN.o⟩
      case measure=>simp;omega
   ·have hdh:=decode_high s pos hp (by omega);have tX:∀ty,(Instr.next (.pointer (some ⟨w.heap.size,0,none⟩)) true ty).run prog (w.iter s pos)=_:=λty=>run_next_any w s pos ty hp;have g1:decide (((Utf8.decode s pos).1:Int)<97)=false:=by simp;omega
    have g2:decide ((122:Int)<((Utf8.decode s pos).1:Int))=true:=by simp;omega
    go_wp2;go_ret2;exact⟨rfl,he⟩
  ·exact absurd (by have e:=HA.o;rwa [bL (by simp;omega)]at e) HL.o
theorem Nl (s:ByteArray) (w:ae) (h:iT s.data.toList=false) (hs:s.size<=bh):bU prog 41 #[.string s] w (NQ w):=by
 by_cases h0:s.size=0\/8<s.size
 ·exact q3g s w h0 hs
 ·refine jd2 s w (by omega) (by omega) λhl=>?_;have:iT s.data.toList=true:=by
   simp only[iT,aR,decide_eq_true_eq];exact⟨by simp;omega,by simp;omega,hl⟩
  rw[h]at this;cases this
end
section
open Go.RowKit Go.Maps
abbrev Bs:=List UInt8
abbrev KV:=List (Bs×Bs)
def sv (l:Bs):ag:=.string ⟨l.toArray⟩
def Rv:ag->Option (DataW Unit×List MemPlace)
 |.agg cs=>match cs.toList with
  |[.string s]=>some (.agg [.lit (.string s.data.toList)],[])
  |_=>none
 |_=>none
def ev (v:Bs):DataW Unit:=.agg [.lit (.string v)]
def DM (L:KV):DataW Unit:=.map (L.map λp=>(.string p.1,ev p.2))
def jv (w:ae) (mb:Nat) (L:KV):Prop:=w.ownsMap prog 9 Rv mb L.length (DM L)
theorem QJ {v:ag} {b:Bs} {ps:List MemPlace} (h:Rv v=some (ev b,ps)):v=.agg #[sv b]:=by
 cases v with
 |agg cs=>
  obtain⟨l⟩:=cs;simp only[Rv]at h;split at h
  ·rename_i s;simp only[Option.some.injEq,Prod.mk.injEq,ev]at h;obtain⟨h1,_⟩:=h;injection h1 with h1;injection h1 with h1 _;injection h1 with h1;injection h1 with h1;subst h1;rfl
  ·cases h
 |_=>cases h
def jb (L:KV) (k:Bs):Option Bs:=(L.find? (λp=>p.1==k)).map (·.2)
theorem q6e (L:KV) (k:Bs):(L.map λp=>((aP p.1:Lit),ev p.2)).find? (λp=>p.1.sameKey (.string k))=(L.find? (λp=>p.1==k)).map λp=>(.string p.1,ev p.2):=by
 induction L with
 |nil=>rfl
 |cons p L ih=>
  rw[aX,bN,bN,ih];have:((aP p.1).sameKey (.string k))=(p.1==k):=rfl;rw[this];cases p.1==k<;>rfl
theorem Sq (L:KV) (k:Bs) (z:DataW Unit):(DM L).atKey (.string k) z=match jb L k with|some v=>ev v|none=>z:=by
 unfold DM DataW.atKey jb;dsimp only;rw[q6e];cases L.find? (λp=>p.1==k)<;>rfl
theorem jc6 (L:KV) (k:Bs):Maps.has (DM L) (.string k)=(jb L k).isSome:=by
 unfold DM jb;rw[Maps.has_eq,Option.isSome_map,List.any_map];induction L with
 |nil=>rfl
 |cons p L ih=>
  rw[List.any_cons,bN,ih];have e:((λp:Lit×DataW Unit=>p.1.sameKey (.string k))∘λp:Bs×Bs=>((aP p.1:Lit),ev p.2)) p=(p.1==k):=rfl;rw[e];cases p.1==k<;>rfl
theorem Ja (L:KV):Maps.size (DM L)=L.length:=by simp[DM,Maps.size]
theorem jv.of {mb:Nat} {L:KV} (h:w.ownsMap prog 9 Rv mb n (DM L)):jv w mb L:=by
 obtain⟨es,clock,hb,F,hs,hD⟩:=h;refine⟨es,clock,hb,F,?_,hD⟩;have h1:Maps.size (DM L)=es.size:=by rw[hD];simp[Maps.size,length_sorted]
 rw[Ja]at h1;omega
theorem jv.block {mb:Nat} {L:KV} (h:jv w mb L) (k:w'.heap[mb]?=w.heap[mb]?):jv w' mb L:=by
 obtain⟨es,clock,hb,F⟩:=h;exact⟨es,clock,k.trans hb,F⟩
theorem QL (w:ae):(zeroValue 146).run prog w=.ok (.agg #[.string ⟨#[]⟩]) w:=by kernel_rfl
theorem IX (s:ByteArray) (hs:s.size<=bh):keyOf prog 9 (.string s)=some (.string s.data.toList):=WideMaps.keyOf_string_mk underlying9 hs
section
variable {w:ae} {db mb:Nat} {L:KV}
theorem jjg (hd:w.cell? ⟨db,0,none⟩=some (.map (some mb))) (hm:jv w mb L):bU prog 68 #[.pointer (some ⟨db,0,none⟩)] w λe w'=>e=.returned (.int .i64 L.length)/\w'=w:=by
 have fD:=hm;have hlen:=λty=>fD.len underlying140 ty;rw[Ja]at hlen;clear fD hm;go_enter func68,ntmps68;go_wp2;go_ret;exact⟨rfl,rfl⟩
theorem q6k (hm:jv w mb L) (s:ByteArray) (hs:s.size<=bh):(Instr.lookup 140 (.map (some mb)) (.string s) true).run prog w=.ok (.tuple #[.agg #[sv ((jb L s.data.toList).getD [])],.bool (jb L s.data.toList).isSome]) w:=by
 have fD:=hm;obtain⟨v,ps,eG,hv⟩:=fD.look_ok (string_keyed underlying9) underlying140 (QL w) (zd:=ev []) (zp:=[]) rfl (IX s hs);rw[jc6]at eG;rw[Sq]at hv;have:Rv v=some (ev ((jb L s.data.toList).getD []),ps):=by
  rw[hv];cases jb L s.data.toList<;>rfl
 rw[eG,QJ this]
def Rw (w:ae) (x:Option Bs) (e:dC) (w':ae):Prop:=e=.returned (.tuple #[sv (x.getD []),.bool x.isSome])/\bC w.heap.size w w'
theorem Ns (hd:w.cell? ⟨db,0,none⟩=some (.map (some mb))) (hm:jv w mb L) (s:ByteArray) (hs:s.size<=bh):bU prog 42 #[.pointer (some ⟨db,0,none⟩),.string s] w (Rw w (jb L s.data.toList)):=by
 have hg:=q6k hm s hs;clear hm;unfold Rw;generalize jb L s.data.toList=x at*;unfold sv at*;generalize (⟨(x.getD []).toArray⟩:ByteArray)=bs at*;go_enter func42,ntmps42;go_wp2;go_ret2;exact⟨rfl,(zk _ _).alloc (ji _) _⟩
end
structure But (B:Nat->Prop) (w w':ae):Prop where
 size:w.heap.size<=w'.heap.size
 keep:∀k,k<w.heap.size->¬B k->w'.heap[k]?=w.heap[k]?
 os:w'.os=w.os
 output:w'.output=w.output
theorem But.refl (B:Nat->Prop) (w:ae):But B w w:=⟨ji _,λ_ _ _=>rfl,rfl,rfl⟩
theorem But.trans {B:Nat->Prop} {b c:ae} (h:But B a b) (k:But B b c):But B a c:=
 ⟨xlt h.size k.size,λi hi hb=>(k.keep i (xll hi h.size) hb).trans (h.keep i hi hb),k.os.trans h.os,k.output.trans h.output⟩
theorem But.mono {B B':Nat->Prop} (h:But B w w') (k:∀b,B b->B' b):But B' w w':=⟨h.size,λi hi hb=>h.keep i hi λx=>hb (k i x),h.os,h.output⟩
theorem But.drew {B:Nat->Prop} (h:But B w w'):But B w w'.drew:=⟨h.size,h.keep,h.os,h.output⟩
theorem But.of_below {B:Nat->Prop} (h:bC w.heap.size w w'):But B w w':=⟨h.size,λi hi _=>h.block i hi,h.os,h.output⟩
def ins (k v:Bs):KV->KV
 |[]=>[(k,v)]
 |p::L=>if ao k p.1 then(k,v)::p::L else p::ins k v L
def lU (L:KV) (k v:Bs):KV:=ins k v (L.filter λp=>!(p.1==k))
def jT (L:KV) (k:Bs):KV:=L.filter λp=>!(p.1==k)
theorem Tq (L:KV) (k:Bs):((L.map λp=>((aP p.1:Lit),ev p.2)).filter λp=>!p.1.sameKey (.string k))=(jT L k).map λp=>(.string p.1,ev p.2):=by
 induction L with
 |nil=>rfl
 |cons p L ih=>
  have e:((aP p.1).sameKey (.string k))=(p.1==k):=rfl;rw[aX,cP,ih];unfold jT;rw[cP];rw[e];cases p.1==k<;>rfl
theorem jcp (L:KV) (k:Bs):(DM L).del (.string k)=DM (jT L k):=by
 unfold DM DataW.del;dsimp only;rw[Tq]
theorem Zp (L:KV) (k v:Bs):DataW.insert ((aP k:Lit),ev v) (L.map λp=>((aP p.1:Lit),ev p.2))=(ins k v L).map λp=>(.string p.1,ev p.2):=by
 induction L with
 |nil=>rfl
 |cons p L ih=>
  rw[aX];unfold DataW.insert ins;have e:((aP k).before (aP p.1))=ao k p.1:=rfl;rw[e];cases ao k p.1
  ·simp[ih]
  ·rfl
theorem je0 (L:KV) (k v:Bs):(DM L).put (.string k) (ev v)=DM (lU L k v):=by
 unfold DM DataW.put;dsimp only;rw[Tq,Zp];rfl
section
variable {w:ae} {db mb:Nat} {L:KV}
theorem q9i (hm:jv w mb L) (hL:L.length<1073741823) (k v:ByteArray) (hk:k.size<=bh):
  ∃w',(Instr.mapUpdate 140 (.map (some mb)) (.string k) (.agg #[.string v])).run prog w=.ok () w'/\jv w' mb (lU L k.data.toList v.data.toList)/\But (· =mb) w w':=by
 have h1:Rv (.agg #[.string v])=some (ev v.data.toList,[]):=rfl;obtain⟨w',eG,ho,hg⟩:=World.ownsMap.update hm (string_keyed underlying9) underlying140 (by unfold bh;omega) (IX k hk) h1;rw[je0]at ho;exact⟨w',eG,.of ho,⟨hg.size,λi hi hb=>hg.block i hi (by simpa using hb),hg.os,hg.output⟩⟩
theorem q54 (hm:jv w mb L) (k:ByteArray) (hk:k.size<=bh) (ty:cH):
  ∃w',(Builtin.delete_ #[140,9] ty #[.map (some mb),.string k]).run prog w=.ok (.tuple #[]) w'/\jv w' mb (jT L k.data.toList)/\But (· =mb) w w':=by
 obtain⟨w',eG,ho,⟨es,ck,iD,Xb,hb,rfl⟩⟩:=World.ownsMap.drop hm (string_keyed underlying9) underlying140 (IX k hk) ty;rw[jcp]at ho;exact⟨_,eG,.of ho,⟨by simp[ChangeMaps.setBlock],λi hi hn=>ChangeMaps.heap_setBlock_other hb _ hn,rfl,rfl⟩⟩
def LJ (w:ae) (mb:Nat) (L:KV) (e:dC) (w':ae):Prop:=e=.returned (.tuple #[])/\jv w' mb L/\But (· =mb) w w'
theorem FQ (hd:w.cell? ⟨db,0,none⟩=some (.map (some mb))) (hm:jv w mb L) (hL:L.length<1073741823) (k v:ByteArray) (hk:k.size<=bh):
  bU prog 69 #[.pointer (some ⟨db,0,none⟩),.agg #[.string k,.string v,.bool false]] w (LJ w mb (lU L k.data.toList v.data.toList)):=by
 go_enter func69,ntmps69;go_wp2;have dY:db<w.heap.size:=xbl w ⟨db,0,none⟩ hd;have c0:(w.alloc (.cells #[.string k,.string v,.bool false] 87)).cell? ⟨w.heap.size,0,none⟩=some (.string k):=by go_simp
 have c1:(w.alloc (.cells #[.string k,.string v,.bool false] 87)).cell? ⟨w.heap.size,1,none⟩=some (.string v):=by go_simp
 have cd:(w.alloc (.cells #[.string k,.string v,.bool false] 87)).cell? ⟨db,0,none⟩=some (.map (some mb)):=(xcb (aQ w _ dY)).trans hd;have hB:But (· =mb) w (w.alloc (.cells #[.string k,.string v,.bool false] 87)):=.of_below ((zk _ _).alloc (ji _) _);have NK:=hm.lt;have EW:jv (w.alloc (.cells #[.string k,.string v,.bool false] 87)) mb L:=hm.block (aQ w _ NK);generalize w.alloc (.cells #[.string k,.string v,.bool false] 87)=W at*;obtain⟨w2,eG,G7,OL⟩:=q9i (w:=W.drew) (EW.block rfl) hL k v hk;refine bY 11 (by kernel_rfl) (by kernel_rfl) ?_;change wpStill _ _ W.drew (λa'=>wpList _ _ _ _ a' W.drew) _ _;simp only[aH,di,aI,dj];repeat still_step
 refine wpStill_nil ?_;go_wp2;go_end0;exact⟨rfl,G7,hB.drew.trans OL⟩
theorem LA (hd:w.cell? ⟨db,0,none⟩=some (.map (some mb))) (hm:jv w mb L) (k v:ByteArray) (hk:k.size<=bh):
  bU prog 69 #[.pointer (some ⟨db,0,none⟩),.agg #[.string k,.string v,.bool true]] w (LJ w mb (jT L k.data.toList)):=by
 go_enter func69,ntmps69;go_wp2;have dY:db<w.heap.size:=xbl w ⟨db,0,none⟩ hd;have c0:(w.alloc (.cells #[.string k,.string v,.bool true] 87)).cell? ⟨w.heap.size,0,none⟩=some (.string k):=by go_simp
 have cd:(w.alloc (.cells #[.string k,.string v,.bool true] 87)).cell? ⟨db,0,none⟩=some (.map (some mb)):=(xcb (aQ w _ dY)).trans hd;have hB:But (· =mb) w (w.alloc (.cells #[.string k,.string v,.bool true] 87)):=.of_below ((zk _ _).alloc (ji _) _);have NK:=hm.lt;have EW:jv (w.alloc (.cells #[.string k,.string v,.bool true] 87)) mb L:=hm.block (aQ w _ NK);generalize w.alloc (.cells #[.string k,.string v,.bool true] 87)=W at*;obtain⟨w2,eG,G7,OL⟩:=q54 (w:=W.drew) (EW.block rfl) k hk 0;refine bY 7 (by kernel_rfl) (by kernel_rfl) ?_;change wpStill _ _ W.drew (λa'=>wpList _ _ _ _ a' W.drew) _ _;simp only[aH,di,aI,dj];repeat still_step
 refine wpStill_nil ?_;go_wp2;go_end0;exact⟨rfl,G7,hB.drew.trans OL⟩
end
end
section
theorem CU:∀a:Bs,ao a a=false
 |[]=>rfl
 |x::r=>by simp[ao,CU r]
theorem Jl:∀{a b c:Bs},ao a b=true->ao b c=true->ao a c=true
 |[],[],[],h,_=>h
 |[],_::_,[],_,h=>by simp[ao]at h
 |[],_,_::_,_,_=>rfl
 |_::_,[],_,h,_=>by simp[ao]at h
 |_::_,_::_,[],_,h=>by simp[ao]at h
 |x::r,y::s,z::t,h,k=>by
  simp only[ao,cY,decide_eq_true_eq,aR,beq_iff_eq]at*;rcases h with h|⟨h,h2⟩<;>rcases k with k|⟨k,k2⟩
  ·exact .inl (UInt8.lt_trans h k)
  ·subst k;exact .inl h
  ·subst h;exact .inl k
  ·subst h;subst k;exact .inr ⟨rfl,Jl h2 k2⟩
theorem F4:∀a b:Bs,ao a b=true\/a=b\/ao b a=true
 |[],[]=>.inr (.inl rfl)
 |[],_::_=>.inl rfl
 |_::_,[]=>.inr (.inr rfl)
 |x::r,y::s=>by
  simp only[ao,cY,decide_eq_true_eq,aR,beq_iff_eq,List.cons.injEq];rcases bm (UInt8.le_refl x)with h|h
  ·exact absurd h (UInt8.lt_irrefl x)
  ·rcases UInt8.le_total x y with h1|h1
   ·rcases bm h1 with h2|h2
    ·exact .inl (.inl h2)
    ·subst h2;rcases F4 r s with h3|h3|h3
     ·exact .inl (.inr ⟨rfl,h3⟩)
     ·exact .inr (.inl ⟨rfl,h3⟩)
     ·exact .inr (.inr (.inr ⟨rfl,h3⟩))
   ·rcases bm h1 with h2|h2
    ·exact .inr (.inr (.inl h2))
    ·subst h2;rcases F4 r s with h3|h3|h3
     ·exact .inl (.inr ⟨rfl,h3⟩)
     ·exact .inr (.inl ⟨rfl,h3⟩)
     ·exact .inr (.inr (.inr ⟨rfl,h3⟩))
theorem EH {a b:Bs} (h:ao a b=true):ao b a=false:=by
 cases e:ao b a with
 |false=>rfl
 |true=>have:=Jl h e;rw[CU]at this;cases this
theorem FI {a b:Bs} (h:ao a b=true):(a==b)=false:=by
 rw[beq_eq_false_iff_ne];rintro rfl;rw[CU]at h;cases h
theorem Eo {a b:Bs} (h:ao a b=true):(b==a)=false:=by
 rw[beq_eq_false_iff_ne];rintro rfl;rw[CU]at h;cases h
def zm (L:KV):Prop:=L.Pairwise λa b=>ao a.1 b.1=true
def oL:KV->Bs->Nat
 |[],_=>0
 |p::L,k=>if ao p.1 k then oL L k+1 else 0
def oN:KV->Bs->Bool
 |[],_=>false
 |p::L,k=>if ao p.1 k then oN L k else p.1==k
def AU (L:KV) (k v:Bs) (g:Bool):KV:=L.take (oL L k)++(if g then[]else[(k,v)])++L.drop (if oN L k then oL L k+1 else oL L k)
theorem TV {L:KV} {k:Bs} (h:∀p∈L,ao k p.1=true):jb L k=none/\jT L k=L:=by
 constructor
 ·unfold jb;rw[Option.map_eq_none_iff,List.find?_eq_none];intro p hp;rw[Eo (h p hp)];simp
 ·unfold jT;rw[List.filter_eq_self];intro p hp;rw[Eo (h p hp)];rfl
theorem Tc {L:KV} {k v:Bs} (h:∀p∈L,ao k p.1=true):ins k v L=(k,v)::L:=by
 cases L with
 |nil=>rfl
 |cons p L=>simp[ins,h p (.head _)]
theorem qne {p:Bs×Bs} {L:KV} {k v:Bs} (h:ao p.1 k=true):lU (p::L) k v=p::lU L k v:=by
 simp[lU,FI h,ins,EH h]
theorem qnd {p:Bs×Bs} {L:KV} {k:Bs} (h:ao p.1 k=true):jT (p::L) k=p::jT L k:=by
 simp[jT,FI h]
theorem Uu {p:Bs×Bs} {L:KV} {k:Bs} (h:ao p.1 k=true):jb (p::L) k=jb L k:=by
 simp[jb,FI h]
theorem Jf:∀{L:KV} (_:zm L) (k:Bs),oL L k<=L.length/\oN L k=(jb L k).isSome/\(∀v,jb L k=some v->L[oL L k]?=some (k,v))/\(∀v,AU L k v true=jT L k)/\(∀v,AU L k v false=lU L k v)
 |[],_,k=>⟨ji _,rfl,λv h=>by simp[jb]at h,λv=>rfl,λv=>rfl⟩
 |p::L,hr,k=>by
  obtain⟨hp,hL⟩:=aZ.1 hr;obtain⟨i1,i2,i3,i4,i5⟩:=Jf hL k;unfold AU at i4 i5⊢;unfold oL oN;rcases F4 p.1 k with h|h|h
  ·simp only[h,if_true];refine⟨by simp;omega,by rw[Uu h];exact i2,λv hv=>by rw[Uu h]at hv;simpa using i3 v hv,λv=>?_,λv=>?_⟩
   ·rw[qnd h,<-i4 v];cases oN L k<;>simp
   ·rw[qne h,<-i5 v];cases oN L k<;>simp
  ·obtain⟨pk,pv⟩:=p;obtain rfl:pk=k:=h;obtain⟨a1,a2⟩:=TV hp;rw[CU];simp only[cq,if_false,beq_self_eq_true,if_true];refine⟨xzl _,by simp[jb],λv hv=>by simp[jb]at hv;simp[hv],λv=>?_,λv=>?_⟩
   ·unfold jT at a2⊢;simp[a2]
   ·unfold jT at a2;unfold lU;simp[a2,Tc hp]
  ·have fH:∀q∈p::L,ao k q.1=true:=λq hq=>by
    rcases aE.1 hq with rfl|hq
    ·exact h
    ·exact Jl h (hp q hq)
   obtain⟨a1,a2⟩:=TV fH;simp only[EH h,cq,if_false];refine⟨xzl _,(by rw[a1,Eo h];rfl),λv hv=>(by rw[a1]at hv;cases hv),λv=>(by rw[a2,Eo h];simp),λv=>?_⟩;rw[Eo h];unfold lU;have Xt:=a2;unfold jT at Xt;rw[Xt,Tc fH];simp
theorem LW {k v:Bs} {q:Bs×Bs}:∀{L:KV},q∈ins k v L->q=(k,v)\/q∈L
 |[],h=>by simp[ins]at h;exact .inl h
 |p::L,h=>by
  unfold ins at h;split at h
  ·rcases aE.1 h with h|h
   ·exact .inl h
   ·exact .inr h
  ·rcases aE.1 h with h|h
   ·exact .inr (h▸.head _)
   ·rcases LW h with h|h
    ·exact .inl h
    ·exact .inr (.tail _ h)
theorem TI {k v:Bs}:∀{L:KV},zm L->(∀p∈L,(p.1==k)=false)->zm (ins k v L)
 |[],_,_=>by simp[ins,zm]
 |p::L,hr,hn=>by
  obtain⟨hp,hL⟩:=aZ.1 hr;unfold ins;split
  ·rename_i h;exact aZ.2 ⟨λq hq=>by
    rcases aE.1 hq with rfl|hq
    ·exact h
    ·exact Jl h (hp q hq),hr⟩
  ·rename_i h;refine aZ.2 ⟨λq hq=>?_,TI hL λq hq=>hn q (.tail _ hq)⟩;rcases LW hq with rfl|hq
   ·rcases F4 p.1 k with h1|h1|h1
    ·exact h1
    ·have:=hn p (.head _);rw[h1]at this;simp at this
    ·exact absurd h1 h
   ·exact hp q hq
theorem TJ {L:KV} (h:zm L) (k:Bs):zm (jT L k):=h.filter _
theorem ZA {L:KV} (h:zm L) (k v:Bs):zm (lU L k v):=TI (TJ h k) λp hp=>by
 have:=(bO.1 hp).2;simpa using this
theorem M4 (k v:Bs):∀L:KV,(ins k v L).length=L.length+1
 |[]=>rfl
 |p::L=>by
  unfold ins;split
  ·rfl
  ·simp[M4 k v L]
theorem Va (L:KV) (k:Bs):(jT L k).length<=L.length:=List.length_filter_le _ _
theorem Ls (L:KV) (k v:Bs):(lU L k v).length<=L.length+1:=by
 unfold lU;rw[M4];have:=Va L k;unfold jT at this;omega
theorem q9h {L:KV} {k v:Bs} (h:(jb L k).isSome=true):(lU L k v).length<=L.length:=by
 unfold lU;rw[M4];have:(L.filter λp=>!(p.1==k)).length<L.length:=by
  unfold jb at h;rw[Option.isSome_map,List.find?_isSome]at h;obtain⟨p,hp,h2⟩:=h;exact List.length_filter_lt_length_iff_exists.2 ⟨p,hp,by simpa using h2⟩
 omega
theorem q8c {L:KV} {k v:Bs} {q:Bs×Bs} (h:q∈lU L k v):q=(k,v)\/q∈L:=by
 rcases LW h with h|h
 ·exact .inl h
 ·exact .inr (bO.1 h).1
theorem q8b {L:KV} {k:Bs} {q:Bs×Bs} (h:q∈jT L k):q∈L:=(bO.1 h).1
def inB (s t:Bs) (p:Bs×Bs):Bool:=!ao p.1 s&&(t.isEmpty||ao p.1 t)
end
section
open Go.RowKit Go.Maps
def flat (L:KV):List ag:=L.flatMap λp=>[sv p.1,sv p.2]
theorem wX:flat []=[]:=rfl
theorem yV (p:Bs×Bs) (L:KV):flat (p::L)=sv p.1::sv p.2::flat L:=rfl
theorem yY (A B:KV):flat (A++B)=flat A++flat B:=List.flatMap_append
theorem Ue (L:KV):(flat L).length=L.length*2:=by
 induction L with
 |nil=>rfl
 |cons p L ih=>rw[yV];simp only[cM,ih];omega
theorem MH:∀(L:KV) (k:Nat),(flat L).take (k*2)=flat (L.take k)
 |[],k=>by simp[wX]
 |p::L,0=>by simp[wX]
 |p::L,k+1=>by
  rw[yV,aH,yV,show(k+1)*2=k*2+1+1 by omega,aH,aH,MH L k]
theorem MI:∀(L:KV) (k:Nat),(flat L).drop (k*2)=flat (L.drop k)
 |[],k=>by simp[wX]
 |p::L,0=>by simp
 |p::L,k+1=>by
  rw[yV,aI,show(k+1)*2=k*2+1+1 by omega,aI,aI,MI L k]
theorem flat_get:∀(L:KV) (k:Nat) (p:Bs×Bs),L[k]?=some p->(flat L)[k*2]?=some (sv p.1)/\(flat L)[k*2+1]?=some (sv p.2)
 |[],k,p,h=>by simp at h
 |q::L,0,p,h=>by simp at h;subst h;exact⟨rfl,rfl⟩
 |q::L,k+1,p,h=>by
  rw[yV,show(k+1)*2=k*2+1+1 by omega];simpa using flat_get L k p (by simpa using h)
theorem q1f {L:KV} {x:ag} (h:x∈flat L):∃s,x=.string s:=by
 obtain⟨p,_,h⟩:=List.mem_flatMap.1 h;rcases aE.1 h with rfl|h
 ·exact⟨_,rfl⟩
 ·rcases aE.1 h with rfl|h
  ·exact⟨_,rfl⟩
  ·cases h
def l6 (w:ae) (v:ag):Prop:= ∀g,v.ownBlock=some g->∃cur ty,w.heap[g]?=some (.cells cur ty (0,0))/\∀x∈cur.toList,∃s,x=.string s
theorem l6.nil (w:ae):l6 w (.slice none 0 0):=λg h=>by cases h
theorem l6.block {v:ag} (h:l6 w v) (k:∀g,v.ownBlock=some g->w'.heap[g]?=w.heap[g]?):l6 w' v:=λg hg=>
 let⟨cur,ty,h1,h2⟩:=h g hg
 ⟨cur,ty,(k g hg).trans h1,h2⟩
theorem YE:∃i,prog.info? 74=some i/\i.zero=some (.agg #[.string ⟨#[]⟩,.string ⟨#[]⟩])/\i.size=2/\i.bytes=32:=by
 have h:(prog.info? 74).map (λi=>(i.zero,i.size,i.bytes))=some (some (.agg #[.string ⟨#[]⟩,.string ⟨#[]⟩]),2,32):=by kernel_rfl
 obtain⟨i,h1,h2⟩:=aJ.1 h;injection h2 with h2 h3;injection h3 with h3 h4;exact⟨i,h1,h2,h3,h4⟩
structure Src (w:ae) (sa:Option Addr) (m:Nat) (news:List ag):Prop where
 len:news.length=m*2
 cell:∀ad,sa=some ad->∀j u,news[j]?=some u->w.cell? (ad.add j)=some u
 zero:sa=none->m=0
 str:∀u∈news,∃s,u=.string s
theorem qnf {z:Array ag} {x:ag} (hz:0<z.size) (h:x∈(aN z n).toList):x∈z.toList:=by
 unfold aN at h;simp only[Array.mem_toList_iff]at h⊢;rw[Array.mem_map]at h;obtain⟨i,_,rfl⟩:=h;have:i%z.size<z.size:=Nat.mod_lt _ hz;rw[getElem!_pos z _ this];exact Array.getElem_mem this
section
variable {w:ae} {base n m c:Nat} {v:ag} {xs news:List ag} {sa:Option Addr}
theorem q9u (ty:cH) (fD:w.ownsRow base 74 2 v n xs) (ha:l6 w v) (hs:Src w sa m news) (hb:n+m<=1073741824) (nR:base<=w.heap.size):
  ∃v' w',(aF #[47,47] ty #[v,.slice sa m c]).run prog w=.ok v' w'/\w'.ownsRow base 74 2 v' (n+m) (xs++news)/\l6 w' v'/\w.grownBy w' v.ownBlock:=by
 obtain⟨i,hi,hz,eU,Bv⟩:=YE;have ht:prog.underlying 47=some (.slice 74):=underlying47;have hlen:(xs++news).length=(n+m)*2:=by rw[cr,fD.1,hs.len,Nat.add_mul]
 have hl:news.length=m*i.size:=by rw[eU];exact hs.len
 have one:∀u∈news,u.oneCell'=true:=λu hu=>by obtain⟨s,rfl⟩:=hs.str u hu;rfl
 have EQ:∀x∈xs,∃s,x=.string s:=λx hx=>by
  rcases fD.2 with⟨_,rfl⟩|⟨g,cap,cur,rfl,_,hg,_,_,_,pQ⟩
  ·have:xs=[]:=ay (by simpa using fD.1);subst this;cases hx
  ·obtain⟨nH,QA,h1,h2⟩:=ha g rfl;rw[hg]at h1;cases h1;rw[<-pQ]at hx;exact h2 x (aO hx)
 have grown:∀(old:Nat),old<n+m->∀(row:Option Nat),
   (w.drew.alloc (.cells (xs.toArray++news.toArray++aN (Value.agg #[.string ⟨#[]⟩,.string ⟨#[]⟩]).cells (grownCap w (n+m) old 74-(n+m))) 74)).ownsRow base 74 2
    (.slice (some ⟨w.heap.size,0,none⟩) (n+m) (grownCap w (n+m) old 74)) (n+m) (xs++news)/\
   l6 (w.drew.alloc (.cells (xs.toArray++news.toArray++aN (Value.agg #[.string ⟨#[]⟩,.string ⟨#[]⟩]).cells (grownCap w (n+m) old 74-(n+m))) 74)) (.slice (some ⟨w.heap.size,0,none⟩) (n+m) (grownCap w (n+m) old 74))/\
   w.grownBy (w.drew.alloc (.cells (xs.toArray++news.toArray++aN (Value.agg #[.string ⟨#[]⟩,.string ⟨#[]⟩]).cells (grownCap w (n+m) old 74-(n+m))) 74)) row:=by
  intro old ho row;have nD:=grownCap_ge w (n+m) old 74;have xJ:grownCap w (n+m) old 74<=bh:=grownCap_le_maxLen w (n+m) old 74 (by unfold bh;omega);refine⟨⟨hlen,.inr ⟨w.heap.size,_,_,rfl,nR,heap_alloc_new w.drew _,nD,xJ,?_,?_⟩⟩,?_,⟨rfl,rfl,rfl,by simp,λk hk _=>aQ w.drew _ hk⟩⟩
  ·have:(Value.agg #[.string ⟨#[]⟩,.string ⟨#[]⟩]).cells.size=2:=rfl;have h1:=fD.1;have h2:=hs.len;rw[Array.size_append,Array.size_append,size_zeroCells,this,bj,bj];omega
  ·simp only[cf,cG];rw[<-cG,<-hlen];exact List.take_left
  ·intro g hg;cases hg;refine⟨_,_,heap_alloc_new w.drew _,λx hx=>?_⟩;simp only[cf,bP]at hx;rcases hx with(hx|hx)|hx
   ·exact EQ x hx
   ·exact hs.str x hx
   ·have hx:=qnf (by decide) hx;have:x∈[Value.string ⟨#[]⟩,.string ⟨#[]⟩]:=hx;simp at this;exact⟨_,this⟩
 cases xD:sa with
 |none=>
  have hm:=hs.zero xD;subst hm;have hn:news=[]:=ay (by simpa using hs.len);subst hn;refine⟨v,w,?_,by simpa using fD,ha,⟨rfl,rfl,rfl,ji _,λ_ _ _=>rfl⟩⟩;rcases fD.2 with⟨rfl,rfl⟩|⟨g,cap,cur,rfl,h1,h2,h3,h4,h5,h6⟩
  ·simp[aF,bi ht,sizeOf,typeInfo,hi,bk,aK,loadCells,loadCellsFrom]
  ·simp[aF,bi ht,sizeOf,typeInfo,hi,bk,aK,loadCells,loadCellsFrom,storeCells,h3]
 |some ad=>
  have kI:=hs.cell ad xD;rcases fD.2 with⟨rfl,rfl⟩|⟨g,cap,cur,rfl,hbg,hg,EU,xJ,gH,pQ⟩
  ·have hx:xs=[]:=ay (by simpa using fD.1);subst hx;by_cases hm:m=0
   ·subst hm;have hn:news=[]:=ay (by simpa using hs.len);subst hn;refine⟨.slice none 0 0,w,?_,by simpa using fD,ha,⟨rfl,rfl,rfl,ji _,λ_ _ _=>rfl⟩⟩;simp[aF,bi ht,sizeOf,typeInfo,hi,bk,aK,loadCells,loadCellsFrom]
   ·have hr:=run_append_nil (P:=prog) w 47 ty 74 i _ ht hi hz ad m c news hl kI (by omega) (by omega) (by rw[Bv];omega);have Br:=grown 0 (by omega) (Value.ownBlock (.slice none 0 0));simp only[cz,List.nil_append,Array.empty_append]at Br⊢;exact⟨_,_,hr,Br.1,Br.2.1,Br.2.2⟩
  ·by_cases jI:n+m<=cap
   ·have rQ:n*2+news.length<=cur.size:=by rw[hs.len,gH,<-Nat.add_mul];exact bX _ jI
    have hr:=run_append_room (P:=prog) w 47 ty 74 i ht hi g n cap cur hg ad m c news hl kI one jI (by rw[eU];exact rQ);rw[eU]at hr;have hblk:=setRow_heap w g cur (cur.toList.take (n*2)++news++cur.toList.drop (n*2+news.length)).toArray 74 _ hg;refine⟨_,_,hr,⟨hlen,.inr ⟨g,cap,_,rfl,hbg,hblk,jI,xJ,?_,?_⟩⟩,?_,⟨rfl,rfl,rfl,by simp,λk _ hk=>setRow_other w g k _ (λe=>hk (by simp[Value.ownBlock,e]))⟩⟩
    ·simp only[bj,cr,aU,bI,Array.length_toList];omega
    ·rw[pQ,<-hlen];exact List.take_left
    ·intro g' gF;cases gF;refine⟨_,_,hblk,λx hx=>?_⟩;obtain⟨nH,QA,h1,h2⟩:=ha g rfl;rw[hg]at h1;cases h1;rcases bP.1 hx with hx|hx
     ·rcases bP.1 hx with hx|hx
      ·exact h2 x (aO hx)
      ·exact hs.str x hx
     ·exact h2 x (List.mem_of_mem_drop hx)
   ·have holds:∀j u,xs[j]?=some u->w.cell? ((⟨g,0,none⟩:Addr).add j)=some u:=fD.cells (g:=g) rfl;have hr:=run_append_grow (P:=prog) w 47 ty 74 i _ ht hi hz ⟨g,0,none⟩ n cap xs (by rw[eU];exact fD.1) holds ad m c news hl kI (by omega) (by omega) (growslice_fits (by omega) (by rw[Bv];omega));have Br:=grown cap (by omega) (Value.ownBlock (.slice (some ⟨g,0,none⟩) n cap));exact⟨_,_,hr,Br.1,Br.2.1,Br.2.2⟩
theorem yo {rest:List Oper} {a:Act} (Bt:o.guard=none) (s x:cw)
  (ho:o.op=.call {callee:=.builtin .append,args:=#[s,x],argTypes:=#[47,47]})
  (es:a.eval s=v) (ex:a.eval x=.slice sa m c) (fD:w.ownsRow base 74 2 v n xs) (ha:l6 w v) (hs:Src w sa m news) (hb:n+m<=1073741824) (nR:base<=w.heap.size)
  (h:∀v' w',w'.ownsRow base 74 2 v' (n+m) (xs++news)->l6 w' v'->w.grownBy w' v.ownBlock->wpList prog ops Q rest (a.put o.dst v') w'):wpList prog ops Q (o::rest) a w:=
 wpList_plain Bt λ_ hK=>by
  obtain⟨v',w',hr,h2,h3,h4⟩:=q9u (c:=c) o.type fD ha hs hb nR;unfold Oper.wp ai;simp only[ho,resolve,invoke,builtin,Sem.run_bind,Sem.run_pure,Result.andThen_ok,bH,aX,cx,es,ex,hr];exact hK _ _ (h v' w' h2 h3 h4)
end
theorem CF:∀a b:Bs,Op.bytesLess a b=ao a b
 |[],[]=>rfl
 |[],_::_=>rfl
 |_::_,[]=>rfl
 |a::x,b::y=>by simp[Op.bytesLess,ao,CF x y]
theorem Rs:∀{L:KV} {k:Bs} (i:Nat) (p:Bs×Bs),(∀(j:Nat) (q:Bs×Bs),j<i->L[j]?=some q->ao q.1 k=true)->L[i]?=some p->ao p.1 k=false->oL L k=i/\oN L k=(p.1==k)
 |[],_,_,_,_,h,_=>by simp at h
 |q::L,k,0,p,_,h,hp=>by
  simp at h;subst h;unfold oL oN;simp[hp]
 |q::L,k,i+1,p,hj,h,hp=>by
  have h0:=hj 0 q (by omega) rfl;obtain⟨h1,h2⟩:=Rs (L:=L) (k:=k) i p (λj q' EY hq=>hj (j+1) q' (by omega) (by simpa using hq)) (by simpa using h) hp;unfold oL oN;rw[if_pos h0,if_pos h0,h1,h2];exact⟨rfl,rfl⟩
theorem at_end:∀{L:KV} {k:Bs},(∀(j:Nat) (q:Bs×Bs),L[j]?=some q->ao q.1 k=true)->oL L k=L.length/\oN L k=false
 |[],_,_=>⟨rfl,rfl⟩
 |q::L,k,h=>by
  have h0:=h 0 q rfl;obtain⟨h1,h2⟩:=at_end (L:=L) (k:=k) λj q' hq=>h (j+1) q' (by simpa using hq);unfold oL oN;rw[if_pos h0,if_pos h0,h1,h2];exact⟨rfl,rfl⟩
theorem Below.drewN' (h:bC B a w) (n:Nat):bC B a (w.drewN n):=⟨h.os,h.tape,h.output,h.size,h.block⟩
def Ep (w:ae) (ix:Nat) (has:Bool) (e:dC) (w':ae):Prop:=e=.returned (.tuple #[.int .i64 ix,.bool has])/\bC w.heap.size w w'
section
variable {w:ae} {L:KV}
end
def jU (w:ae) (base:Nat) (v:ag) (L:KV):Prop:=w.ownsRow base 74 2 v L.length (flat L)/\l6 w v
section
variable {w:ae} {L:KV}
theorem qC (k:ByteArray):sv k.data.toList=.string k:=by unfold sv;simp
theorem jf {b:ByteArray} {l:Bs} (h:b.data.toList=l):sv l=.string b:=by rw[<-h];exact qC b
theorem l6.alloc {v:ag} (h:l6 w v) (o:Obj):l6 (w.alloc o) v:=λg hg=>by
 obtain⟨cur,ty,h1,h2⟩:=h g hg;exact⟨cur,ty,(aQ w o (yx h1).1).trans h1,h2⟩
theorem Src.one (w:ae) (a b:ByteArray) (ty:cH):Src (w.alloc (.cells #[.string a,.string b] ty)) (some ⟨w.heap.size,0,none⟩) 1 [.string a,.string b]:=by
 refine⟨rfl,λad e j u hj=>?_,λh=>(by cases h),λu hu=>by simp at hu;rcases hu with rfl|rfl<;>exact⟨_,rfl⟩⟩;cases e;rw[Addr.add_lit,cz];match j,hj with
 |0,hj=>simp at hj;subst hj;go_simp
 |1,hj=>simp at hj;subst hj;go_simp
structure CA (cb:Nat) (k x:ByteArray) (g:Bool) (w:ae):Prop where
 c0:w.cell? ⟨cb,0,none⟩=some (.string k)
 c1:w.cell? ⟨cb,1,none⟩=some (.string x)
 c2:w.cell? ⟨cb,2,none⟩=some (.bool g)
theorem Be {v:ag} {base:Nat} (h:bC B a w) (hg:w.grownBy w1 v.ownBlock) (hr:w.ownsRow base 74 2 v n xs) (hb:B<=base) (hs:B<=w.heap.size):bC B a w1:=
 h.grown hg hs λj hj=>by have:=(hr.lt j hj).1;omega
theorem LQ {v:ag} {g cap:Nat} (hr:jU w 0 v L) (hv:v=.slice (some ⟨g,0,none⟩) L.length cap) (hb:bC w.heap.size w w') (i m:Nat) (him:i+m<=L.length):Src w' (some ⟨g,i*2,none⟩) m (flat ((L.drop i).take m)):=by
 subst hv;have h:=hr.1;refine⟨by rw[Ue,aU,bI];omega,λad e j u hj=>?_,λh=>(by cases h),λu hu=>q1f hu⟩;cases e;rw[<-MH,<-MI]at hj;have jO:j<m*2:=by
  have:=(bw.1 hj).1;rw[aU]at this;omega
 rw[aY jO,List.getElem?_drop]at hj;have hc:=h.cells (g:=g) rfl _ _ hj;rw[Addr.add_lit]at hc⊢;have hc:w.cell? ⟨g,i*2+j,none⟩=some u:=by simpa using hc
 exact(hb.cell (xbl w _ hc)).trans hc
theorem Jb {b:Nat} {v:ag} {L:KV} (h:w.ownsRow b 74 2 v n xs) (ha:l6 w v) (hB:B<=b) (e:xs=flat L):jU w B v L:=by
 have hn:n=L.length:=by have:=h.1;rw[e,Ue]at this;omega
 subst hn;subst e;exact⟨⟨h.1,h.2.imp id λ⟨g,cap,cur,h1,h2,h3⟩=>⟨g,cap,cur,h1,xlt hB h2,h3⟩⟩,ha⟩
theorem Mj {g cap:Nat} (h:n<=cap):(if cap=i then(some ⟨g,0,none⟩:Option Addr)else some ⟨g,i*2,none⟩)=some ⟨g,i*2,none⟩\/n-i=0/\∃a,(if cap=i then(some ⟨g,0,none⟩:Option Addr)else some ⟨g,i*2,none⟩)=some a:=by
 by_cases hc:cap=i
 ·rw[if_pos hc];exact .inr ⟨by omega,_,rfl⟩
 ·rw[if_neg hc];exact .inl rfl
theorem LK {g:Nat} (HS:∀w',bC w.heap.size w w'->∀i m,i+m<=L.length->Src w' (some ⟨g,i*2,none⟩) m (flat ((L.drop i).take m))) (hb:bC w.heap.size w w') (i:Nat) (hle:i<=L.length)
  (xD:sa=some ⟨g,i*2,none⟩\/(L.length-i=0/\∃a,sa=some a)):Src w' sa (L.length-i) (flat (L.drop i)):=by
 rcases xD with rfl|⟨h0,a,rfl⟩
 ·have:=HS w' hb i (L.length-i) (by omega);rwa [bL (by rw[bI];exact ji _)]at this
 ·have hd:L.drop i=[]:=List.drop_eq_nil_of_le (by omega);rw[hd,h0];exact⟨rfl,λad e j u hj=>by simp[wX]at hj,λh=>(by cases h),λu hu=>by simp[wX]at hu⟩
theorem Src.nil {w:ae}:Src w none 0 []:=⟨rfl,λad e j u hj=>by simp at hj,λ_=>rfl,λu hu=>by cases hu⟩
end
end
end Go.Proofs.YtkpekiajdlolnabGreat
