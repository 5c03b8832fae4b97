/- PROVED: part 3 of the claim's ground. Conditions: those that each theorem names. -/
import Derived.Test.YtkpekiajdlolnabGreatM02
import Derived.Conc.DeferLaws
import Derived.Conc.CompanyDraw
import Derived.Conc.Own3
import Derived.Conc.WgWords
import Derived.WalkKit
import Derived.Conc.LeavingOf
import Derived.Test.YtkpekiajdlolnabGreatChecked
import Derived.LoopTactic
import Derived.Lib.Hide
import Derived.Outline
import Derived.Maps.Own
import Derived.StringKeys
import Derived.Maps.OwnOps
import Derived.Maps.OwnSet
import Derived.BigQuiet
import Derived.Deep.QuietTactic
import Derived.StillTailTactics
import Derived.Laws.AppendOwn
import Derived.OwnWalk
import Derived.Laws.Cover1
set_option linter.unusedVariables false
set_option linter.unusedSimpArgs false
set_option maxRecDepth 100000
set_option maxHeartbeats 16000000
variable{B c cb cl i id j kb n tb:Nat} {F O SB:Go.Proofs.YtkpekiajdlolnabGreat.Sim.Blocks} {K:Go.Goroutine->Go.World->Prop} {Q:Go.Exit->Go.Act->Go.World->Prop} {R:Go.Value->Go.World->Prop} {Stop:Go.Proofs.YtkpekiajdlolnabGreat.Sim.Blocks->Go.Proofs.YtkpekiajdlolnabGreat.Sim.Blocks->Go.Goroutine->Go.World->Prop} {a w w' w1:Go.World} {ad:Go.Addr} {b fr gr:Go.Frame} {cs:List Go.Frame} {e:Go.Operand->Go.Value} {f:Go.FuncId} {g:Go.Goroutine} {gs:Array Go.Goroutine} {jd:Nat->Go.Proofs.YtkpekiajdlolnabGreat.Sim.Blocks->Go.Value->Go.World->Prop} {k k':List Go.Item} {l l':List (Nat×Go.Value)} {o:Go.Oper} {ops:Array Go.Oper} {q:Nat->Nat} {s:ByteArray} {sa:Option Go.Addr} {sl:Option (Nat×Nat)} {t:Go.Trace} {td:List Nat} {ty:Go.TypeId} {xs:List Go.Value} {ρ:Go.Proofs.YtkpekiajdlolnabGreat.Sim.Rel}
open Go.Proofs.Tryz
open Go.Region renaming wanted→aa,ready→aw
open Go renaming undef→ac,World→ae,Value→ag,execOp→ai,bytesBefore→aj,Frame→al,Goroutine→am,yielded→ax,FuncId→aA,Program→aF,stepG→aP,heap_alloc_old→aS,maxLen→bp,run_underlying→bq,Calls→bB,Trace→bD,MapEntry→bI,mem_ready→bQ,getD_set_ne→co,wp_region_still_tail→cy,exitTo→cF,Operand→cM,TypeId→cU,Deferred→dq,callFunc→dv,Ending→dz,Event→dG
open Go.Act renaming mk→ah
open Array renaming getElem?_push→ak,replicate→ce,toList_append→cB,ext'→dx
open Go.Frame renaming enter→ao,finish→dN
open Go.Conc renaming stepG_region_end→aq,stepG_region→az,stepG_seq→aC,stepG_value→aG,aside_setCell→aY,mem_listed→bi,Leavers→bE,seen_none→bH,goes_go→bK,stepG_block→bL,stepG_enter→cq,stepG_inBlock→cE,stepG_skip→dw
open List renaming eq_nil_of_length_eq_zero→au,mem_cons→aB,take_succ_cons→aI,drop_succ_cons→aJ,mem_of_mem_take→aQ,length_take→aV,getElem?_eq_some_iff→aW,map_cons→aZ,getElem?_take_of_lt→bg,pairwise_cons→bj,size_toArray→bw,length→bJ,getElem?_eq_getElem→bO,all_eq_true→bP,map_toArray→bV,length_drop→bX,take_of_length_le→bZ,find?_cons→cg,mem_filter→cj,mem_append→cn,length_append→cJ,map_nil→cN,append_assoc→cT,length_cons→da,filter_cons→de,range→dt,mem_range→du,take_zero→dA,drop_zero→dB
open Go.Region.linearise renaming go→ay
open Nat renaming le_of_lt→aD,reduceAdd→aM,zero_add→bG,mul_le_mul_right→cx,lt_or_ge→dH
open Go.Builtin renaming append_→aE,firstCells→aL,zeroCells→aO,lenOf→bA,len_→bY,min_→dK,min2→dL
open Go.World renaming cell?→aH,ownsRow_nil→bN,frozen?→cC
open Option renaming map_eq_some_iff→aK,getD→dj,map_some→dk
open And renaming intro→aN
open Go.Lit renaming string→aR
open Bool renaming and_eq_true→aT,false_eq_true→cH,or_eq_true→dl
open Ne renaming symm→aU
open Go.ByteArray renaming toList_eq→aX
open Go.RowKit renaming Below→bh
open ByteArray renaming getElem_eq_getElem_data→bk
open Go.Sem renaming runT_fst→bm,runT_bind'→bz,runT→dy,run_bind→dI,run_pure→dJ,runT_eq→dW
open UInt8 renaming lt_or_eq_of_le→bC
open Go.Addr renaming add_lit→bF
namespace Go.Proofs.YtkpekiajdlolnabGreat
namespace Ph
section
open Go Go.Conc Go.ConcN Sim
section
variable {X:Cx} {Fb:aA->Bool} {SB:Blocks} {Q:al->List al->ae->Prop}
inductive Way (k:List Item):al->al->Prop
 |land {f:al} {k':List Item}:f.mode=.run->(k'=k\/∃id,cF id k=some k')->Way k (wt f (st k')) (wt f k')
 |ret {f:al} {t t':List Item}:f.mode=.returning->Way k (wt f t) (wt f t')
theorem q0i (h:k'=k\/∃id,cF id k=some k'):(st k').length<=(st k).length:=by
 rcases h with rfl|⟨id,h⟩
 ·exact ji _
 ·have:∀k,cF id k=some k'->(st k').length<=(sf k).length:=by
   intro k;induction k with
   |nil=>intro h;cases h
   |cons a k ih=>
    cases a with
    |inBlock id'=>
     intro h;have e:cF id (.inBlock id'::k)=if id'==id then some k else cF id k:=rfl
     rw[e]at h;rw[sf];split at h
     ·cases h;simp
     ·have:=ih h;rw[wG k];simp;omega
    |_=>
     intro h;rw[sf]
     ·exact ih h
     ·intro _ e;cases e
  have:=this k h;rw[wG k];simp;omega
theorem Aq.out (hQ:Aq k Q) {up gup:List al} (Bc:Sw k fr up gr gup) (hq:Q fr (up++[c0]) w):up=[]/\gup=[]/\Way k fr gr:=by
 obtain⟨hc,ho⟩:=hQ _ _ _ hq;cases Bc with
 |ret hm=>exact⟨rfl,rfl,.ret hm⟩
 | @above up f t t' h=>
  have:=congrArg bJ hc;simp at this
 | @bot f t t' h=>
  rcases ho with ho|⟨hm,k',ho,rZ⟩
  ·exact⟨rfl,rfl,.ret ho⟩
  ·exfalso;have ho:t=st k':=ho;cases h with
   |code a u=>
    have h1:=congrArg bJ ho;have h2:=q0i rZ;simp at h1;omega
   |op _ _ _=>
    rw[wG k']at ho;injection ho with h _;cases h
theorem Kl (hf:FR X Fb true ρ fr fr):FR X Fb true ρ (wt fr []) (wt fr []):=⟨hf.fn,hf.same,hf.tmps,.nil,hf.defers,hf.mode,hf.run,hf.kind,hf.kind',hf.round⟩
theorem WR.self {Fb:aA->Bool} {sp:aA->Bool} (S:X.Set Fb true sp) {wc:ae} (hw:WN X ρ w wc) (hs:Same w wc) (d:Nat):WR X ρ (wc.at d) (wc.at d):=by
 obtain⟨τ0,_,k0⟩:=hw;refine⟨k0.fn,k0.inj,λ{a b} iw=>?_,λ_ _=>rfl,λa ha=>absurd ha (S.wrs rfl a)⟩;obtain⟨o,o',k1,k2,k3⟩:=k0.heap iw;exact⟨o,o',by show wc.heap[a]?=_;rw[hs.heap];exact k1,k2,k3⟩
def UK (X:Cx) (Fb:aA->Bool) (SB:Blocks) (k:List Item) (Q:al->List al->ae->Prop) (ρ:Rel) (gs:Array am) (base:List al) (wc:ae) (sl:Option (Nat×Nat)) (t:bD):Prop:=
 ∃(N:Nat) (fE:Array am) (iB CJ:al) (w2 mg:ae) (sl':Option (Nat×Nat)) (t':bD) (q':Nat->Nat) (ρ2:Rel),
    runNT X.P N (crowd gs wc sl) t=(.next (crowd fE mg sl'),t')/\Q iB [c0] w2/\Way k iB CJ/\fE.size=gs.size/\fE[0]?=some (G CJ base)/\Same w2 mg/\FR X Fb true ρ2 (wt iB []) (wt iB [])/\WN X ρ2 w2 mg/\ρ.le ρ2/\NB w2/\
     bE X.P t' fE q'/\xw SB mg fE.size t'/\vM SB (rng ρ2) (own X ρ2) mg
theorem qrw (rE:X.P'=X.P) (S:X.Set Fb true (λ_=>false)) (hQ:Aq k Q):∀{fr:al} {cs:List al} {w:ae},nQ X.P Q fr cs w->
  ∀{ρ:Rel} {gr:al} {up gup base:List al} {gs:Array am} {wc:ae} {sl:Option (Nat×Nat)} {t:bD} {q:Nat->Nat},cs=up++[c0]->Sw k fr up gr gup->FR X Fb true ρ fr fr->FsR X Fb true ρ up up->WN X ρ w wc->Same w wc->NB w->Bot (fr::up)->
   gs[0]?=some (G gr (gup++base))->bE X.P t gs q->xw SB wc gs.size t->vM SB (rng ρ) (own X ρ) wc->
   UK X Fb SB k Q ρ gs base wc sl t:=by
 intro fr cs w h;induction h with
 | @done fr cs w hq=>
  rintro ρ gr up gup base gs wc sl t q rfl Bc hf hu hw hs hn hB h0 hL hP hF;obtain⟨rfl,rfl,ho⟩:=hQ.out Bc hq;exact⟨0,gs,fr,gr,w,wc,sl,t,q,ρ,rfl,hq,ho,rfl,h0,hs,Kl hf,hw,ρ.le_refl,hn,hL,hP,hF⟩
 | @step fr cs w nf nc nw ne dS hm ih=>
  rintro ρ gr up gup base gs wc sl t q rfl Bc hf hu hw hs hn hB h0 hL hP hF;obtain⟨hgo,key⟩:=qul rE S hQ.mode dS hm hf hu hw hs hn hB;have JI:∀d,∃zh up1 uT rQ w1 ρ1 es,aP X.P true (G gr (gup++base)) (wc.at d)=.go (G uT (rQ++base)) (shf wc.tape (w.drawn,d) w1) es/\Aft k zh up1 uT rQ/\
    (∃τ,(Agree w τ)/\zh=nf τ/\up1++[c0]=nc τ/\w1=nw τ)/\FR X Fb true ρ1 zh zh/\FsR X Fb true ρ1 up1 up1/\WR X ρ1 w1 (shf wc.tape (w.drawn,d) w1)/\ρ.le ρ1/\NB w1/\Bot (zh::up1)/\
    oO (rng ρ) (own X ρ) (wc.at d) (rng ρ1) (own X ρ1) (shf wc.tape (w.drawn,d) w1) es:=λd=>by
   obtain⟨zh,up1,w1,ρ1,es,e,hτ,h1,h2,h3,hle,h7,h8,ok⟩:=key d;have hwz:=WR.self S hw hs d;rcases q91 S (base:=base) Bc hf hwz true hB hgo with⟨iB,wX,CJ,Tj,w2,rH,e1,e2,ha⟩|fP
   ·rw[e]at e1;injection e1 with a1 a2 a3;injection a1 with a1 a4;obtain rfl:=a1;obtain rfl:=List.append_cancel_right a4;obtain rfl:=a2;obtain rfl:=a3;exact⟨zh,up1,CJ,Tj,w1,ρ1,es,e2,ha,hτ,h1,h2,h3,hle,h7,h8,ok⟩
   ·exact absurd e (fP _ _ _)
  have jN:0<gs.size:=(zi h0).1;obtain⟨N,jZ,a1,d,MU,es,iZ,t1,q1,hr,Yv,hz,nJ,nW,pU,_⟩:=zG (P:=X.P) (SB:=SB) (sl:=sl) h0 rfl hL hP λd=>by
   obtain⟨zh,up1,uT,rQ,w1,ρ1,es,e,_,_,_,_,_,_,_,_,ok⟩:=JI d;have Ey:vM SB (rng ρ) (own X ρ) (wc.at d):=⟨hF.apart,hF.low,hF.own,hF.foot⟩
   have lG:=Ey.step ok;exact⟨_,_,es,e,ok.size,λx hx=>⟨Kh (ok.ev x hx) lG.apart lG.foot,λy hy=>(NJ (ok.ev x hx) hy).1⟩⟩
  obtain⟨zh,up1,uT,rQ,w1,ρ1,iV,e,ha,⟨τ,Zy,rfl,IX,rfl⟩,h1,h2,h3,hle,h7,h8,ok⟩:=JI d;rw[e]at Yv;have ig:G uT (rQ++base)=a1/\shf wc.tape (w.drawn,d) (nw τ)=MU/\iV=es:=by
   injection Yv with a b c;exact⟨a,b,c⟩
  obtain⟨rfl,rfl,rfl⟩:=ig;have Ey:vM SB (rng ρ) (own X ρ) (wc.at d):=⟨hF.apart,hF.low,hF.own,hF.foot⟩
  have zW:=Ey.step ok;have gZ:Same (nw τ) (shf wc.tape (w.drawn,d) (nw τ)):=⟨rfl,rfl,rfl⟩
  have fin:∀{uT:al} {rQ:List al},jZ[0]?=some (G uT (rQ++base))->Sw k (nf τ) up1 uT rQ->UK X Fb SB k Q ρ gs base wc sl t:=λ{uT rQ} nJ iP=>by
   obtain⟨N',fE,iB,CJ,w2,mg,sl',t',q',ρ2,gT,hq,ho,Ba,uS,oP,g1,g3,g4,g5,uQ,rG,lG⟩:=ih τ Zy (sl:=iZ) IX.symm iP h1 h2 (WN.of h3) gZ h7 h8 nJ nW pU zW;exact⟨N+N',fE,iB,CJ,w2,mg,sl',t',q',ρ2,runNT_trans _ hr gT,hq,ho,Ba.trans hz,uS,oP,g1,g3,Rel.le_trans hle g4,g5,uQ,rG,lG⟩
  have Bh:=hm τ Zy;rw[<-IX]at Bh;generalize nf τ=zh at*;cases ha with
  |sw iP=>exact fin nJ iP
  |panic hp=>rcases h1.run with h|h<;>rw[hp]at h<;>cases h
  |ld hl=>
   cases hl with
   | @land f k' rZ=>
    rcases h1.run with Bj|Bj
    ·have hq:=VJ hQ Bh Bj;exact⟨N,jZ,wt f (st k'),wt f k',nw τ,_,iZ,t1,q1,ρ1,hr,(by have:=(hQ _ _ _ hq).1;rw[this]at hq;exact hq),.land Bj rZ,hz,nJ,gZ,Kl h1,WN.of h3,hle,h7,nW,pU,zW⟩
    ·exact fin (rQ:=[]) nJ (.ret (f:=f) Bj)
   | @late f o=>
    rcases h1.run with Bj|Bj
    ·have hq:=qzp hQ Bh Bj;exact⟨N,jZ,wt f (st k),wt f k,nw τ,_,iZ,t1,q1,ρ1,hr,(by have:=(hQ _ _ _ hq).1;rw[this]at hq;exact hq),.land Bj (.inl rfl),hz,nJ,gZ,(show FR X Fb true ρ1 (wt f []) (wt f [])from Kl (fr:=wt f (.inRegion #[o] []::st k)) h1),WN.of h3,hle,h7,nW,pU,zW⟩
    ·exact fin (rQ:=[]) nJ (.ret (f:=f) Bj)
end
structure Co (X:Cx) (Fb bl:aA->Bool) (SB:Blocks) (ρ:Rel) (gs:Array am) (fr:al) (cs:List al) (w:ae) (t:bD) (q:Nat->Nat):Prop where
 g0:gs[0]?=some (G fr cs)
 leavers:bE X.P t gs q
 past:xw SB w gs.size t
 foot:vM SB (rng ρ) (own X ρ) w
 fr:bl fr.fn=false->FR X Fb true ρ (wt fr []) (wt fr [])
 cs:∀c∈cs,bl c.fn=false->FR X Fb true ρ (wt c []) (wt c [])
 wr:WR X ρ w w
 nb:NB w
def Comes (X:Cx) (Fb bl:aA->Bool) (SB:Blocks) (ρ:Rel) (gs:Array am) (w:ae) (sl:Option (Nat×Nat)) (t:bD) (cs:List al) (Z:al->ae->Prop):Prop:=
 ∃(fE:Array am) (fw:al) (w':ae) (sl':Option (Nat×Nat)) (t':bD) (q':Nat->Nat) (ρ':Rel),Runs X.P gs w sl t fE w' sl' t'/\fE.size=gs.size/\ρ.le ρ'/\Z fw w'/\Co X Fb bl SB ρ' fE fw cs w' t' q'
section
variable {X:Cx} {Fb bl:aA->Bool} {SB:Blocks}
theorem NH {f:al} {t:List Item} (h:FR X Fb true ρ (wt f []) (wt f [])) (ht:IsR X Fb true ρ t t):FR X Fb true ρ (wt f t) (wt f t):=
 ⟨h.fn,h.same,h.tmps,ht,h.defers,h.mode,h.run,h.kind,h.kind',h.round⟩
theorem qzm:Aq k (Tgt b (st k) Q):=by
 rintro fr cs w ⟨hc,e,a,_,hl⟩;refine⟨hc,?_⟩;cases e with
 |normal=>obtain rfl:=hl;exact .inr ⟨rfl,k,rfl,.inl rfl⟩
 |exit id=>
  obtain⟨k',h1,rfl⟩:=hl;rw[Lf]at h1;obtain⟨k1,h2,rfl⟩:=aK.1 h1;exact .inr ⟨rfl,k1,rfl,.inr ⟨id,h2⟩⟩
 |ret=>obtain⟨todo,rfl⟩:=hl;exact .inl rfl
 |_=>exact hl.elim
theorem Wd (h:k'=k\/∃id,cF id k=some k'):k' <:+ k:=by
 rcases h with rfl|⟨id,h⟩
 ·exact List.suffix_refl _
 ·exact Xf h
theorem q0x {e:Exit} {a:Act} (h:Way k fr gr) (hl:Ca b (st k) e a fr):Ca b k e a gr:=by
 cases h with
 | @land f k' hm hk=>
  have key:∀k1,(k1=k\/∃id,cF id k=some k1)->wt f (st k')=b.at a (st k1)->wt f k'=b.at a k1:=λk1 h1 e=>by
   have e1:st k'=st k1:=congrArg Frame.todo e;have e2:=jec (Wd hk) (Wd h1) e1;subst e2;exact congrArg (wt · k') e
  cases e with
  |normal=>exact key k (.inl rfl) hl
  |exit id=>
   obtain⟨k2,h1,h2⟩:=hl;rw[Lf]at h1;obtain⟨k1,h3,rfl⟩:=aK.1 h1;exact⟨k1,h3,key k1 (.inr ⟨id,h3⟩) h2⟩
  |ret=>
   obtain⟨todo,hl⟩:=hl;have:f.mode=.returning:=congrArg Frame.mode hl;rw[hm]at this;cases this
  |_=>exact hl.elim
 | @ret f t t' hm=>
  cases e with
  |normal=>
   have:f.mode=.run:=congrArg Frame.mode hl;rw[hm]at this;cases this
  |exit id=>
   obtain⟨k2,h1,h2⟩:=hl;have:f.mode=.run:=congrArg Frame.mode h2;rw[hm]at this;cases this
  |ret=>
   obtain⟨todo,hl⟩:=hl;exact⟨t',congrArg (wt · t') hl⟩
  |_=>exact hl.elim
theorem Co.carry (rE:X.P'=X.P) (S:X.Set Fb true (λ_=>false))
  (h:Co X Fb bl SB ρ gs gr cs w t q) (Bc:Sw k fr [] gr []) (hf:FR X Fb true ρ fr fr) (qJ:fr.roundOf=none) (tQ:∀e a w wc,Same w wc->Q e a w->Q e a wc)
  (hm:nQ X.P (Tgt b (st k) Q) fr [c0] w):
  Comes X Fb bl SB ρ gs w sl t cs (λfw w'=>∃e a',Q e a' w'/\Ca b k e a' fw):=by
 have hB:Bot [fr]:=by
  intro f hf;simp at hf;subst hf;exact qJ
 obtain⟨N,fE,iB,CJ,w2,mg,sl',t',q',ρ2,hr,⟨_,e,a',hq,hl⟩,ho,hz,uS,hs,g1,g3,g4,g5,uQ,rG,lG⟩:=qrw rE S qzm hm (up:=[]) (gup:=[]) (base:=cs) rfl Bc hf .nil (WN.of h.wr) (Same.refl w) h.nb hB h.g0 h.leavers h.past h.foot;refine⟨fE,CJ,mg,sl',t',q',ρ2,⟨N,hr⟩,hz,g4,⟨e,a',tQ _ _ _ _ hs hq,q0x ho hl⟩,⟨uS,uQ,rG,lG,?_,λc hc hb=>(h.cs c hc hb).mono g4,WR.self S g3 hs mg.drawn,?_⟩⟩
 ·intro _;cases ho<;>exact g1
 ·exact g5
theorem Co.code (rE:X.P'=X.P) (S:X.Set Fb true (λ_=>false)) {ρ:Rel} {gs:Array am} {b:al} {a:Act} {c:Code} {k:List Item} {cs:List al} {w:ae} {sl:Option (Nat×Nat)} {t:bD} {q:Nat->Nat} {Q:Exit->Act->ae->Prop}
  (h:Co X Fb bl SB ρ gs (b.at a (.code c::k)) cs w t q) (gB:bl b.fn=false) (hc:codeOk X.P X.P Fb true c=true) (xO:Plain k Q) (tQ:∀e a w wc,Same w wc->Q e a w->Q e a wc)
  (hp:∀τ,Agree w τ->c.wp X.P Q a (re w τ)):
  Comes X Fb bl SB ρ gs w sl t cs (λfw w'=>∃e a',Q e a' w'/\Ca b k e a' fw):=by
 have hf:FR X Fb true ρ (b.at a (.code c::st k)) (b.at a (.code c::st k)):=NH (f:=b.at a []) (h.fr gB) (.cons (.code (by rw[rE];exact hc)) (IsR.st X Fb true ρ k));have hB:Bot [b.at a (.code c::st k)]:=by
  intro f hf;simp at hf;subst hf;rfl
 have hinv:Inv X Fb true (b.at a (.code c::st k)) [c0] w:=⟨ρ,_,[],[],w,rfl,hf,.nil,h.wr,h.nb,hB⟩
 have EM:Plain (st k) Q:=λe a w hq=>by
  have:=xO e a w hq;cases e with
  |exit id=>obtain⟨k',e⟩:=this;exact⟨st k',by rw[Lf,e];rfl⟩
  |_=>exact this
 have hm:=O4 S hinv EM tQ (b:=b) (k:=st k) (λτ ha=>hp τ ha b (st k) [c0]);exact h.carry rE S (fr:=b.at a (.code c::st k)) (.bot (f:=b.at a []) (.code (.code c) [])) hf rfl tQ hm
theorem qzq {P:aF} {Q:al->List al->ae->Prop} {zh:al} (h:nQ P Q fr cs w) (hq:¬Q fr cs w) (hs:aP P true (G fr cs) w=.go (G zh cs) w #[]):nQ P Q zh cs w:=by
 cases h with
 |done h=>exact absurd h hq
 |step nf nc nw ne h1 h2=>
  have e:aP P true (G fr cs) w=.go (G (nf w.tape) (nc w.tape)) (nw w.tape) (ne w.tape):=h1 w.tape (λ_ _ _=>rfl);rw[hs]at e;injection e with e1 e2 _;injection e1 with e1 e3;have:=h2 w.tape (λ_ _ _=>rfl);rw[<-e1,<-e2,<-e3]at this;exact this
theorem Co.op (rE:X.P'=X.P) (S:X.Set Fb true (λ_=>false)) {ρ:Rel} {gs:Array am} {b:al} {a:Act} {ops:Array Oper} {i:Nat} {td:List Nat} {o:Oper} {k:List Item} {cs:List al} {w:ae} {sl:Option (Nat×Nat)} {t:bD} {q:Nat->Nat} {Q:Act->ae->Prop}
  (h:Co X Fb bl SB ρ gs (b.at a (.inRegion ops (i::td)::k)) cs w t q) (gB:bl b.fn=false) (ho:ops[i]?=some o) (fH:kE X.P X.P Fb true (bare o)=true) (eY:aa o (ax ops a.tmps)=true) (tQ:∀a w wc,Same w wc->Q a w->Q a wc) {id:Nat}
  (hp:∀τ,Agree w τ->(Code.region id #[bare o] false).wp X.P (λe a' w'=>e=.normal/\Q a' w') a (re w τ)):
  Comes X Fb bl SB ρ gs w sl t cs (λfw w'=>∃a',Q a' w'/\fw=b.at a' (.inRegion ops td::k)):=by
 let K:List Item:=.inRegion ops td::k
 have Sc:kE X.P X.P' Fb true (bare o)=true:=by rw[rE];exact fH
 have gm:(#[bare o]:Array Oper).toList.all (kE X.P X.P' Fb true)=true:=by simp[Sc]
 have hf0:FR X Fb true ρ (b.at a (.code (.region id #[bare o] false)::st K)) (b.at a (.code (.region id #[bare o] false)::st K)):=NH (f:=b.at a []) (h.fr gB) (.cons (.code gm) (IsR.st X Fb true ρ K));have gF:FR X Fb true ρ (b.at a (.inRegion #[bare o] [0]::st K)) (b.at a (.inRegion #[bare o] [0]::st K)):=NH (f:=b.at a []) (h.fr gB) (.cons (.inRegion [0] gm) (IsR.st X Fb true ρ K));have hB:Bot [b.at a (.code (.region id #[bare o] false)::st K)]:=by
  intro f hf;simp at hf;subst hf;rfl
 let Q':Exit->Act->ae->Prop:=λe a' w'=>e=.normal/\Q a' w'
 have ZE:∀e a w wc,Same w wc->Q' e a w->Q' e a wc:=λe a w wc hs h=>⟨h.1,tQ _ _ _ hs h.2⟩
 have EM:Plain (st K) Q':=by rintro e a w ⟨rfl,_⟩;trivial
 have hinv:Inv X Fb true (b.at a (.code (.region id #[bare o] false)::st K)) [c0] w:=⟨ρ,_,[],[],w,rfl,hf0,.nil,h.wr,h.nb,hB⟩
 have hm:=O4 S hinv EM ZE (b:=b) (k:=st K) (λτ ha=>hp τ ha b (st K) [c0]);have IZ:nQ X.P (Tgt b (st K) Q') (b.at a (.inRegion #[bare o] [0]::st K)) [c0] w:=by
  refine qzq hm ?_ rfl;rintro⟨_,e,a',⟨rfl,_⟩,hl⟩;have:=congrArg Frame.todo (show b.at a (.code (.region id #[bare o] false)::st K)=b.at a' (st K)from hl);have h1:=congrArg bJ this;simp[Frame.at]at h1
 obtain⟨fE,fw,w',sl',t',q',ρ',h1,h2,h3,⟨e,a',⟨rfl,hq⟩,hl⟩,h4⟩:=h.carry rE S (k:=K) (sl:=sl) (fr:=b.at a (.inRegion #[bare o] [0]::st K)) (.bot (f:=b.at a []) (.op rfl ho eY)) gF rfl ZE IZ;exact⟨fE,fw,w',sl',t',q',ρ',h1,h2,h3,⟨a',hq,hl⟩,h4⟩
inductive Sil (P:aF):al->List al->al->List al->Prop
 |refl (fr:al) (cs:List al):Sil P fr cs fr cs
 |step {fr zh iB:al} {cs eX CK:List al}:(∀w,aP P true (G fr cs) w=.go (G zh eX) w #[])->Sil P zh eX iB CK->Sil P fr cs iB CK
theorem Sil.runs {P:aF} {fw:al} {fJ:List al} (hs:Sil P fr cs fw fJ):∀{gs:Array am} {w:ae} {sl:Option (Nat×Nat)} {t:bD} {q:Nat->Nat},gs[0]?=some (G fr cs)->bE P t gs q->xw SB w gs.size t->
  ∃(fE:Array am) (d:Nat) (sl':Option (Nat×Nat)) (t':bD) (q':Nat->Nat),Runs P gs w sl t fE (w.at d) sl' t'/\fE.size=gs.size/\fE[0]?=some (G fw fJ)/\bE P t' fE q'/\xw SB (w.at d) fE.size t':=by
 induction hs with
 |refl fr cs=>exact λ{gs w sl t q} h0 hL hP=>⟨gs,w.drawn,sl,t,q,⟨0,rfl⟩,rfl,h0,hL,hP⟩
 |step h1 _ ih=>
  intro gs w sl t q h0 hL hP;obtain⟨N,jZ,a1,d,w1,es,iZ,t1,q1,hr,hgo,hz,nJ,nW,pU,_⟩:=zG (P:=P) (SB:=SB) (sl:=sl) h0 rfl hL hP λd=>⟨_,_,_,h1 _,ji _,by simp⟩
  rw[h1]at hgo;injection hgo with e1 e2 e3;subst e1;subst e2;obtain⟨oI,d2,nY,t2,q2,xN,Cq,h02,hL2,hP2⟩:=ih (sl:=iZ) nJ nW pU;exact⟨oI,d2,nY,t2,q2,Runs.trans ⟨N,hr⟩ xN,Cq.trans hz,h02,hL2,hP2⟩
theorem Co.sil {fw:al} {fJ:List al} (h:Co X Fb bl SB ρ gs fr cs w t q) (hs:Sil X.P fr cs fw fJ)
  (hf:bl fw.fn=false->FR X Fb true ρ (wt fw []) (wt fw [])) (hc:∀c∈fJ,bl c.fn=false->FR X Fb true ρ (wt c []) (wt c [])):
  ∃(fE:Array am) (d:Nat) (sl':Option (Nat×Nat)) (t':bD) (q':Nat->Nat),Runs X.P gs w sl t fE (w.at d) sl' t'/\fE.size=gs.size/\Co X Fb bl SB ρ fE fw fJ (w.at d) t' q':=by
 obtain⟨fE,d,sl',t',q',h1,h2,h3,h4,h5⟩:=hs.runs (SB:=SB) (sl:=sl) h.g0 h.leavers h.past;exact⟨fE,d,sl',t',q',h1,h2,⟨h3,h4,h5,⟨h.foot.apart,h.foot.low,h.foot.own,h.foot.foot⟩,hf,hc,⟨h.wr.fn,h.wr.inj,h.wr.heap,λ_ _=>rfl,h.wr.sh⟩,h.nb⟩⟩
end
def fbL:List Nat:=[10,12,14,16,17,18,19,22,23,24,25,26,28,29,30,31,32,33,34,35,36,37,38,39,40,41,42,43,44,45,46,47,48,49,50,51,52,56,58,59,60,61,62,63,64,65,66,67,68,69,70,71,72,73,74,75,76,90,91,97,98,99,100,101,102,103,104,105,106,107,108,109,110,111,112,113,114,115,116,117,122,123,124,126,127,128,129,130,131,132,133,134,135,136,137,138,139,140,141,142,143,144,145,146,147,148,149,150,151,152,153,154,155,156,157,158,159]
def Yx:List Nat:=[56,90,91,122,123,124,135,136,137,142,143,144,145,146,147,148,149,150,151,152,153,154,155,156,157,158,159]
def fb (f:aA):Bool:=fbL.contains f
def fbP (f:aA):Bool:=Yx.contains f
noncomputable def okf (P:aF) (b:aA->Bool) (wr:Bool) (f:Nat):Bool:=match P.funcs[f]? with
 |some fn=>match fn.body with
  |some c=>codeOk P P b wr c&&!(fn.name== "runtime.NumGoroutine")
  |none=>false
 |none=>false
theorem GI {P:aF} {b:aA->Bool} {l:List Nat} {wr:Bool} (h:l.all (okf P b wr)=true) (f:aA) (hf:l.contains f=true):
  ∃fn c,P.funcs[f]?=some fn/\fn.body=some c/\codeOk P P b wr c=true/\(fn.name== "runtime.NumGoroutine")=false:=by
 rw[bP]at h;have:=h f (List.contains_iff_mem.1 hf);unfold okf at this;cases h1:P.funcs[f]? with
 |none=>rw[h1]at this;cases this
 |some fn=>
  rw[h1]at this;cases h2:fn.body with
  |none=>simp only[h2]at this;cases this
  |some c=>
   simp only[h2,aT,Bool.not_eq_true']at this;exact⟨fn,c,rfl,h2,this.1,this.2⟩
theorem ND:fbL.all (okf prog fb true)=true:=by kernel_rfl
theorem Ul:Yx.all (okf prog fbP false)=true:=by kernel_rfl
def blG (f:aA):Bool:=[3,4,5,6,7,8,10,11].contains f
noncomputable def XG:Cx:=⟨prog,prog,λf=>fb f=true,λc=>codeOk prog prog fb true c=true,λ_=>False⟩
noncomputable def XW (Sh:Nat->Prop):Cx:=⟨prog,prog,λf=>fbP f=true,λc=>codeOk prog prog fbP false c=true,Sh⟩
theorem WA:prog.globals.size=0:=by kernel_rfl
theorem okXG:XG.Ok fb:=⟨rfl,λ_ h=>h,WA,λ_ _ _=>rfl,λ_ _ _=>rfl,λf hf=>by
 obtain⟨fn,c,h1,h2,_,h4⟩:=GI ND f hf
 exact⟨fn,fn,h1,h1,by rw[h2];rfl,by rw[h2];rfl,h4,h4⟩⟩
theorem yX:XG.Set fb true (λ_=>false):=⟨okXG,λ_=>Iff.rfl,λ_ _ h=>h,λf hf _=>by
 obtain⟨fn,c,h1,h2,h3,_⟩:=GI ND f hf
 exact⟨fn,c,h1,h1,h2,h3⟩⟩
theorem okXW (Sh:Nat->Prop):(XW Sh).Ok fbP:=⟨rfl,λ_ h=>h,WA,λ_ _ _=>rfl,λ_ _ _=>rfl,λf hf=>by
 obtain⟨fn,c,h1,h2,_,h4⟩:=GI Ul f hf
 exact⟨fn,fn,h1,h1,by rw[h2];rfl,by rw[h2];rfl,h4,h4⟩⟩
theorem jjv (Sh:Nat->Prop):(XW Sh).Set fbP false (λ_=>false):=⟨okXW Sh,λ_=>Iff.rfl,(λh=>by cases h),λf hf _=>by
 obtain⟨fn,c,h1,h2,h3,_⟩:=GI Ul f hf
 exact⟨fn,c,h1,h1,h2,h3⟩⟩
structure FOk (F O:Blocks) (w:ae):Prop where
 low:∀b,F b->b<w.heap.size
 own:∀b,O b->F b
theorem FOk.ext (h:FOk F O w) (e:Ext F w w1):FOk F O w1:=⟨λb hb=>xll (h.low b hb) e.size,h.own⟩
theorem FOk.quiet (h:FOk F O w) (d:Nat) {es:Array dG} (he:∀e∈es,EvF F O e):oO F O w F O {w with drawn:=w.drawn+d} es:=
 ⟨λ_ h=>h,λ_ h=>h,λ_ h=>.inl h,λ_ h=>.inl h,h.own,λ_ _ _=>rfl,ji _,h.low,⟨d,rfl⟩,rfl,rfl,rfl,he,id⟩
section
variable {P:aF} {main:Bool} {Stop:Blocks->Blocks->am->ae->Prop} {F O:Blocks} {g g':am} {w:ae}
theorem WG.ctl (hr:g.status=.running) (hF:FOk F O w) (hs:∀w1,aP P main g w1=.go g' w1 #[]) (k:WG P main Stop F O g' w):WG P main Stop F O g w:=
 WG.step hr λw1 e=>⟨F,O,g',w1,#[],hs w1,(hF.ext e).quiet 0 (by simp),k.ext e⟩
theorem WG.quiet (hr:g.status=.running) (hF:FOk F O w) (hs:∀w1,Ext F w w1->∃g' d es,aP P main g w1=.go g' {w1 with drawn:=w1.drawn+d} es/\(∀e∈es,EvF F O e)/\WG P main Stop F O g' {w1 with drawn:=w1.drawn+d}):WG P main Stop F O g w:=
 WG.step hr λw1 e=>by
  obtain⟨g',d,es,h1,h2,h3⟩:=hs w1 e;exact⟨F,O,g',_,es,h1,(hF.ext e).quiet d h2,h3⟩
variable {b:al} {a:Act} {k:List Item} {cs:List al} {ops:Array Oper} {i:Nat} {rest:List Nat} {o:Oper}
theorem WG.value (v:ag) (hF:FOk F O w) (ho:ops[i]?=some o) (hw:aa o (ax ops a.tmps)=true) (hk:b.kind≠.early)
  (hr:∀w1,Ext F w w1->(ai a.eval o).run P w1=.ok (.value v) w1/\∀e∈(ai a.eval o).events P w1 #[],EvF F O e)
  (n:WG P main Stop F O (G (b.at (a.put o.dst v) (.inRegion ops rest::k)) cs) w):WG P main Stop F O (G (b.at a (.inRegion ops (i::rest)::k)) cs) w:=
 WG.quiet rfl hF λw1 e=>⟨_,0,_,aG ho hw hk (hr w1 e).1,λe' he=>(hr w1 e).2 e' (bi he),n.ext e⟩
theorem FU {F O:Blocks} (h:F ad.block):EvF F O ⟨.cell ad,false,false⟩:=⟨rfl,h,λh=>by cases h⟩
end
noncomputable def vz:Array Oper:=match Tryz.f54.body with
 |some (.seq _ (.region _ ops _))=>ops
 |_=>#[]
theorem xJ {a:Addr} (h:w1.heap[a.block]?=w.heap[a.block]?):w1.cell? a=w.cell? a:=by unfold aH;rw[h]
structure Dl (F:Blocks) (kb cb fb tb cl i:Nat) (dp s t:ag) (w:ae):Prop where
 k:w.cell? ⟨kb,0,none⟩=some (.int .i64 i)
 c:w.cell? ⟨cb,0,none⟩=some (.pointer (some ⟨cl,0,none⟩))
 f:w.cell? ⟨fb,0,none⟩=some s
 t:w.cell? ⟨tb,0,none⟩=some t
 d:w.cell? ⟨cl,1+i*3+1,none⟩=some dp
 Fk:F kb
 Fc:F cb
 Ff:F fb
 Ft:F tb
 Fd:F cl
theorem Dl.ext {fb:Nat} {dp s t:ag} (h:Dl F kb cb fb tb cl i dp s t w) (e:Ext F w w1):Dl F kb cb fb tb cl i dp s t w1:=
 ⟨(xJ (e.keep _ h.Fk)).trans h.k,(xJ (e.keep _ h.Fc)).trans h.c,(xJ (e.keep _ h.Ff)).trans h.f,(xJ (e.keep _ h.Ft)).trans h.t,(xJ (e.keep _ h.Fd)).trans h.d,h.Fk,h.Fc,h.Ff,h.Ft,h.Fd⟩
section
variable {kb cb fb tb cl i:Nat} {dp s t:ag}
def nZ (cl i:Nat) (dp s t:ag):Nat->ag
 |0=>.int .i64 i
 |1=>.pointer (some ⟨cl,0,none⟩)
 |2=>.int .i64 i
 |3=>.pointer (some ⟨cl,0,none⟩)
 |4=>.pointer (some ⟨cl,1,none⟩)
 |5=>.pointer (some ⟨cl,1+i*3,none⟩)
 |6=>.pointer (some ⟨cl,1+i*3+1,none⟩)
 |7=>dp
 |8=>s
 |_=>t
structure WkT (kb cb fb tb cl i C Wg:Nat) (dp s t:ag) (listed:Array Bool) (T:Array ag):Prop where
 size:T.size=18
 t1:T.getD 1 ac=.pointer (some ⟨cb,0,none⟩)
 t2:T.getD 2 ac=.pointer (some ⟨kb,0,none⟩)
 t3:T.getD 3 ac=.pointer (some ⟨fb,0,none⟩)
 t4:T.getD 4 ac=.pointer (some ⟨tb,0,none⟩)
 t5:T.getD 5 ac=.pointer (some ⟨C,0,none⟩)
 val:∀j,j<10->listed.getD j false=true->T.getD (6+j) ac=nZ cl i dp s t j
variable {C Wg:Nat} {listed:Array Bool} {T:Array ag} {F O:Blocks} {w:ae} {ds:List dq}
theorem A7 (h:j∈aw .any vz listed) (ho:vz[j]?=some o) (q:Nat) (e:Edge) (he:o.after[q]?=some e) (hb:Region.binds .any e=true):listed.getD e.on false=true:=by
 obtain⟨_,o',Be,gm⟩:=bQ.1 h;rw[ho]at Be;cases Be;exact gm e (Array.mem_of_getElem? he) hb
theorem TV (hi:i<4) (hT:WkT kb cb fb tb cl i C Wg dp s t listed T) (hw:Dl F kb cb fb tb cl i dp s t w) (hj:j<10) (hr:j∈aw .any vz listed):
  ∃o,vz[j]?=some o/\o.guard=none/\o.dst=some (6+j)/\(ai (ah T ds).eval o).run prog w=.ok (.value (nZ cl i dp s t j)) w/\∀e∈(ai (ah T ds).eval o).events prog w #[],EvF F O e:=by
 have e1:(ah T ds).eval (.tmp 1)=.pointer (some ⟨cb,0,none⟩):=hT.t1;have e2:(ah T ds).eval (.tmp 2)=.pointer (some ⟨kb,0,none⟩):=hT.t2;have e3:(ah T ds).eval (.tmp 3)=.pointer (some ⟨fb,0,none⟩):=hT.t3;have e4:(ah T ds).eval (.tmp 4)=.pointer (some ⟨tb,0,none⟩):=hT.t4;have dep:∀j',j'<10->listed.getD j' false=true->(ah T ds).eval (.tmp (6+j'))=nZ cl i dp s t j':=λj' h1 h2=>hT.val j' h1 h2;have I9:((i:Int)<4):=by omega
 have k1:=hw.k;have k2:=hw.c;have k3:=hw.f;have k4:=hw.t;have k5:=hw.d;generalize (ah T ds).eval=e at*;have af:=λo (ho:vz[j]?=some o)=>A7 (listed:=listed) hr ho;clear hr;match j,hj with
 |0,_=>
  obtain⟨o,ho,eU,hd,hg⟩:∃o,vz[0]?=some o/\o.op=.load 3 (.tmp 2)/\o.dst=some (6+0)/\o.guard=none:=⟨_,rfl,rfl,rfl,rfl⟩
  refine⟨o,ho,hg,hd,?_,?_⟩
  ·unfold ai;simp[go_sem,eU,nZ,e2,k1]
  ·unfold ai;simp[go_sem,eU,e2,k1];exact FU hw.Fk
 |1,_=>
  obtain⟨o,ho,eU,hd,hg⟩:∃o,vz[1]?=some o/\o.op=.load 40 (.tmp 1)/\o.dst=some (6+1)/\o.guard=none:=⟨_,rfl,rfl,rfl,rfl⟩
  refine⟨o,ho,hg,hd,?_,?_⟩
  ·unfold ai;simp[go_sem,eU,nZ,e1,k2]
  ·unfold ai;simp[go_sem,eU,e1,k2];exact FU hw.Fc
 |2,_=>
  obtain⟨o,ho,eU,hd,hg⟩:∃o,vz[2]?=some o/\o.op=.load 3 (.tmp 2)/\o.dst=some (6+2)/\o.guard=none:=⟨_,rfl,rfl,rfl,rfl⟩
  refine⟨o,ho,hg,hd,?_,?_⟩
  ·unfold ai;simp[go_sem,eU,nZ,e2,k1]
  ·unfold ai;simp[go_sem,eU,e2,k1];exact FU hw.Fk
 |3,_=>
  have d1:=dep 1 (by omega) (af _ rfl 0 ⟨1,.data⟩ rfl rfl);simp only[nZ,aM]at d1;obtain⟨o,ho,eU,hd,hg⟩:∃o,vz[3]?=some o/\o.op=.nilCheck (.tmp 7)/\o.dst=some (6+3)/\o.guard=none:=⟨_,rfl,rfl,rfl,rfl⟩
  refine⟨o,ho,hg,hd,?_,?_⟩
  ·unfold ai;simp[go_sem,eU,nZ,d1]
  ·unfold ai;simp[go_sem,eU,d1]
 |4,_=>
  have d3:=dep 3 (by omega) (af _ rfl 0 ⟨3,.data⟩ rfl rfl);simp only[nZ,aM]at d3;obtain⟨o,ho,eU,hd,hg⟩:∃o,vz[4]?=some o/\o.op=.fieldAddr 83 (.tmp 9) 1/\o.dst=some (6+4)/\o.guard=none:=⟨_,rfl,rfl,rfl,rfl⟩
  refine⟨o,ho,hg,hd,?_,?_⟩
  ·unfold ai;simp[go_sem,eU,nZ,d3]
  ·unfold ai;simp[go_sem,eU,d3]
 |5,_=>
  have d4:=dep 4 (by omega) (af _ rfl 0 ⟨4,.data⟩ rfl rfl);simp only[nZ,aM]at d4;have d2:=dep 2 (by omega) (af _ rfl 1 ⟨2,.data⟩ rfl rfl);simp only[nZ,aM]at d2;obtain⟨o,ho,eU,hd,hg⟩:∃o,vz[5]?=some o/\o.op=.indexAddr 81 (.tmp 10) (.tmp 8)/\o.dst=some (6+5)/\o.guard=none:=⟨_,rfl,rfl,rfl,rfl⟩
  refine⟨o,ho,hg,hd,?_,?_⟩
  ·unfold ai;simp[go_sem,eU,nZ,d4,d2,I9]
  ·unfold ai;simp[go_sem,eU,d4,d2,I9,Instr.indexAt];intro e h4;omega
 |6,_=>
  have d5:=dep 5 (by omega) (af _ rfl 0 ⟨5,.data⟩ rfl rfl);simp only[nZ,aM]at d5;obtain⟨o,ho,eU,hd,hg⟩:∃o,vz[6]?=some o/\o.op=.fieldAddr 80 (.tmp 11) 1/\o.dst=some (6+6)/\o.guard=none:=⟨_,rfl,rfl,rfl,rfl⟩
  refine⟨o,ho,hg,hd,?_,?_⟩
  ·unfold ai;simp[go_sem,eU,nZ,d5]
  ·unfold ai;simp[go_sem,eU,d5]
 |7,_=>
  have d6:=dep 6 (by omega) (af _ rfl 0 ⟨6,.data⟩ rfl rfl);simp only[nZ,aM]at d6;obtain⟨o,ho,eU,hd,hg⟩:∃o,vz[7]?=some o/\o.op=.load 77 (.tmp 12)/\o.dst=some (6+7)/\o.guard=none:=⟨_,rfl,rfl,rfl,rfl⟩
  refine⟨o,ho,hg,hd,?_,?_⟩
  ·unfold ai;simp[go_sem,eU,nZ,d6,k5]
  ·unfold ai;simp[go_sem,eU,d6,k5];exact FU hw.Fd
 |8,_=>
  obtain⟨o,ho,eU,hd,hg⟩:∃o,vz[8]?=some o/\o.op=.load 9 (.tmp 3)/\o.dst=some (6+8)/\o.guard=none:=⟨_,rfl,rfl,rfl,rfl⟩
  refine⟨o,ho,hg,hd,?_,?_⟩
  ·unfold ai;simp[go_sem,eU,nZ,e3,k3]
  ·unfold ai;simp[go_sem,eU,e3,k3];exact FU hw.Ff
 |9,_=>
  obtain⟨o,ho,eU,hd,hg⟩:∃o,vz[9]?=some o/\o.op=.load 9 (.tmp 4)/\o.dst=some (6+9)/\o.guard=none:=⟨_,rfl,rfl,rfl,rfl⟩
  refine⟨o,ho,hg,hd,?_,?_⟩
  ·unfold ai;simp[go_sem,eU,nZ,e4,k4]
  ·unfold ai;simp[go_sem,eU,e4,k4];exact FU hw.Ft
 |_+10,h=>omega
end
theorem OU (p p':Nat->Bool) (i:Nat) (h:∀j,j≠i->p' j=p j) (hp:p i=true) (IU:p' i=false):∀l:List Nat,l.Nodup->i∈l->l.countP p'+1=l.countP p
 |[],_,hi=>by cases hi
 |x::l,hn,hi=>by
  rw[List.nodup_cons]at hn;by_cases hx:x=i
  ·subst hx;have e:l.countP p'=l.countP p:=List.countP_congr λj hj=>by rw[h j (λe=>hn.1 (e▸hj))]
   simp[List.countP_cons,hp,IU,e]
  ·have:=OU p p' i h hp IU l hn.2 ((aB.1 hi).resolve_left (λe=>hx e.symm));simp only[List.countP_cons,h x hx];omega
def cnt (listed:Array Bool):Nat:=(dt 13).countP λj=>!listed.getD j true
theorem Uv {listed:Array Bool} (hi:i<13) (hs:listed.size=13) (h:listed.getD i true=false):cnt (listed.setIfInBounds i true)+1=cnt listed:=by
 refine OU _ _ i (λj hj=>?_) (by simpa using h) ?_ _ List.nodup_range (du.2 hi)
 ·rw[co true (aU hj)]
 ·have:i<listed.size:=by omega
  simp[this]
theorem q0w:(dt 13).all (λn=>match vz[n]? with|some o=>o.after.all λe=>decide (e.on<n)|none=>false)=true:=by kernel_rfl
theorem OG:vz.size=13:=rfl
theorem qwb {listed:Array Bool} (hs:listed.size=13) (h:∃j,j<13/\listed.getD j true=false):aw .any vz listed≠[]:=by
 have hb:=q0w;rw[bP]at hb;have key:∀n,n<=13->(∀j,j<n->listed.getD j false=true)\/∃j,j∈aw .any vz listed:=by
  intro n;induction n with
  |zero=>intro _;exact .inl λj hj=>absurd hj (Nat.not_lt_zero _)
  |succ n ih=>
   intro hn;rcases ih (by omega)with h1|h1
   ·have eH:n<listed.size:=by omega
    cases hv:listed.getD n false with
    |true=>
     refine .inl λj hj=>?_;rcases dH j n with h2|h2
     ·exact h1 j h2
     ·obtain rfl:j=n:=by omega
      exact hv
    |false=>
     refine .inr ⟨n,bQ.2 ⟨?_,?_⟩⟩
     ·simp[eH]at hv⊢;exact hv
     ·have:=hb n (du.2 (by omega));cases ho:vz[n]? with
      |none=>rw[ho]at this;cases this
      |some o=>
       rw[ho]at this;refine⟨o,rfl,λe he _=>h1 _ ?_⟩;have:=(Array.all_eq_true_iff_forall_mem.1 this) e he;simpa using this
   ·exact .inr h1
 obtain⟨j,hj,Qy⟩:=h;rcases key 13 (ji _)with h1|⟨j',h1⟩
 ·have:=h1 j hj;have eH:j<listed.size:=by omega
  simp[eH]at this Qy;rw[this]at Qy;cases Qy
 ·exact List.ne_nil_of_mem h1
theorem go_open {listed:Array Bool} {fuel t:Nat} (h:aw .any vz listed≠[]):∃i t',i∈aw .any vz listed/\
  ay .any vz (fuel+1) t listed []=i::ay .any vz fuel t' (listed.setIfInBounds i true) []:=by
 have eH:t%(aw .any vz listed).length<(aw .any vz listed).length:=Nat.mod_lt _ (List.length_pos_iff.2 h);refine⟨(aw .any vz listed)[t%(aw .any vz listed).length],t/(aw .any vz listed).length,List.getElem_mem _,?_⟩;simp only[ay];change (match(aw .any vz listed)[t%(aw .any vz listed).length]? with
   |some i=>ay .any vz fuel (t/(aw .any vz listed).length) (listed.setIfInBounds i true) [i]
   |none=>[].reverse)=_
 rw[bO eH];simp only[];rw[linearise_go_acc];rfl
theorem WG.keep {P:aF} {main:Bool} {F0:Blocks}:∀{F O:Blocks} {g:am} {w:ae},WG P main Stop F O g w->(∀b,F0 b->F b/\¬O b/\b<w.heap.size)->
  ∀{w0:ae},Ext F0 w0 w->WG P main (λF O g w1=>Stop F O g w1/\Ext F0 w0 w1/\∀b,F0 b->F b/\¬O b/\b<w1.heap.size) F O g w:=by
 rintro F O g w ⟨r,h⟩;induction r generalizing F O g w with
 |leaf=>
  intro h0 w0 e0;exact WG.stop λw1 e=>⟨h w1 e,e0.trans (e.sub λb hb=>(h0 b hb).1),λb hb=>⟨(h0 b hb).1,(h0 b hb).2.1,xll (h0 b hb).2.2 e.size⟩⟩
 |node f ih=>
  intro h0 w0 e0;refine WG.step h.1 λw1 e=>?_;obtain⟨F',O',g',w',es,h1,h2,h3⟩:=h.2 w1 e;have e1:Ext F0 w0 w1:=e0.trans (e.sub λb hb=>(h0 b hb).1);have eH:∀b,F0 b->b<w1.heap.size:=λb hb=>xll (h0 b hb).2.2 e.size;exact⟨F',O',g',w',es,h1,h2,ih w1 h3 (λb hb=>⟨h2.sub b (h0 b hb).1,λho=>(h2.BI b ho).elim (h0 b hb).2.1 (λhle=>Nat.lt_irrefl _ (xll (eH b hb) hle)),xll (eH b hb) h2.size⟩)
   (e1.trans ⟨h2.size,λb hb=>h2.keep b (eH b hb) (h0 b hb).2.1⟩)⟩
theorem vw {T:Array ag} {v:ag} (h:j<T.size):(T.setIfInBounds j v).getD j ac=v:=by simp[h]
theorem qz {T:Array ag} {j':Nat} {v:ag} (h:j≠j'):(T.setIfInBounds j v).getD j' ac=T.getD j' ac:=by
 simp[xne h]
theorem jcp {listed:Array Bool} {t:Nat} (h:∀j,j∈aw .any vz listed->False):∀{fuel:Nat},ay .any vz fuel t listed []=[]
 |0=>rfl
 |fuel+1=>by
  have hr:aw .any vz listed=[]:=List.eq_nil_iff_forall_not_mem.2 h;simp only[ay];change (match(aw .any vz listed)[t%(aw .any vz listed).length]? with
    |some i=>ay .any vz fuel (t/(aw .any vz listed).length) (listed.setIfInBounds i true) [i]
    |none=>[].reverse)=_
  rw[hr];rfl
def AtRet (P:aF) (R:Blocks->ag->ae->Prop) (base:List al) (F O:Blocks) (g:am) (w:ae):Prop:=
 FOk F O w/\∃v,R F v w/\g.status=.running/\∀c cs,base=c::cs->∀w1,aP P false g w1=.go (G (c.finish v) cs) w1 #[]
section
variable {kb cb fb tb cl i C Wg:Nat} {dp s t:ag} {listed:Array Bool} {T:Array ag} {ds:List dq}
theorem WkT.set (hT:WkT kb cb fb tb cl i C Wg dp s t listed T) (v:ag) (hv:j<10->v=nZ cl i dp s t j) (hj:6+j<18) (hl:listed.size=13):WkT kb cb fb tb cl i C Wg dp s t (listed.setIfInBounds j true) (T.setIfInBounds (6+j) v):=by
 refine⟨by simpa using hT.size,?_,?_,?_,?_,?_,λj' I7 h=>?_⟩
 ·rw[qz (by omega)];exact hT.t1
 ·rw[qz (by omega)];exact hT.t2
 ·rw[qz (by omega)];exact hT.t3
 ·rw[qz (by omega)];exact hT.t4
 ·rw[qz (by omega)];exact hT.t5
 ·by_cases e:j=j'
  ·subst e;rw[vw (by rw[hT.size];omega)];exact hv I7
  ·rw[qz (by omega)];rw[co false e]at h;exact hT.val j' I7 h
variable {jd:Blocks->ag->ae->Prop} {F0:Blocks} {w0:ae} {b:al} {k:List Item} {cs:List al} {Stop:Blocks->Blocks->am->ae->Prop}
theorem wReg (hi:i<4) (hk:b.kind≠.early) (jl:∀F v w w1,jd F v w->Ext F w w1->jd F v w1)
  (lg:∀(c:al) (w1:ae),Ext F0 w0 w1->WG prog false (AtRet prog jd (c::cs)) F0 (λ_=>False) (G (ao prog 56 #[dp,s,t] .normal) (c::cs)) w1)
  (fB:∀F O w T v,FOk F O w->(∀b,F0 b->F b)->jd F v w->T.getD 16 ac=v->T.getD 17 ac=.pointer (some ⟨C,i,none⟩)->T.size=18->Stop F O (G (b.at ⟨T,ds⟩ (.inRegion vz [12]::k)) cs) w):
  ∀(fuel t':Nat) (listed:Array Bool) (T:Array ag) (F O:Blocks) (w:ae),listed.size=13->cnt listed=fuel->WkT kb cb fb tb cl i C Wg dp s t listed T->Dl F0 kb cb fb tb cl i dp s t w->FOk F O w->(∀b,F0 b->F b)->
   listed.getD 12 true=false->(listed.getD 10 false=true->jd F (T.getD 16 ac) w)->(listed.getD 10 false=false->F=F0/\O=(λ_=>False)/\Ext F0 w0 w)->(listed.getD 11 false=true->T.getD 17 ac=.pointer (some ⟨C,i,none⟩))->
   WG prog false Stop F O (G (b.at ⟨T,ds⟩ (.inRegion vz (ay .any vz fuel t' listed [])::k)) cs) w:=by
 intro fuel;induction fuel with
 |zero=>
  intro t' listed T F O w fC hc _ _ _ _ iy;exfalso;have:=Uv (i:=12) (by omega) fC iy;omega
 |succ fuel ih=>
  intro t' listed T F O w fC hc hT iU hF iW iy iQ YE jA;obtain⟨j,t2,hj,e⟩:=go_open (fuel:=fuel) (t:=t') (qwb fC ⟨12,by omega,iy⟩);rw[e];have kR:listed.getD j true=false:=(bQ.1 hj).1;have P9:j<13:=by
   obtain⟨_,o,ho,_⟩:=bQ.1 hj;have:=(zi ho).1;rwa [OG]at this
  have gX:=Uv P9 fC kR;have wm:(listed.setIfInBounds j true).size=13:=by simpa using fC
  have fA:∀{n:Nat} {d:Bool},n≠j->(listed.setIfInBounds j true).getD n d=listed.getD n d:=λh=>co _ (aU h);rcases(by omega:j<10\/j=10\/j=11\/j=12)with h|rfl|rfl|rfl
  ·-- one of the first ten
   obtain⟨o,ho,hg,hd,hr,iG⟩:=TV (F:=F) (O:=O) (ds:=ds) hi hT (w:=w) ⟨iU.k,iU.c,iU.f,iU.t,iU.d,iW _ iU.Fk,iW _ iU.Fc,iW _ iU.Ff,iW _ iU.Ft,iW _ iU.Fd⟩ h hj;have eY:aa o (ax vz (ah T ds).tmps)=true:=by unfold aa;rw[hg]
   refine WG.value (nZ cl i dp s t j) hF ho eY hk (λw1 e1=>?_) ?_
   ·obtain⟨o',Be,_,_,gT,SN⟩:=TV (F:=F) (O:=O) (ds:=ds) hi hT (w:=w1) (Dl.ext ⟨iU.k,iU.c,iU.f,iU.t,iU.d,iW _ iU.Fk,iW _ iU.Fc,iW _ iU.Ff,iW _ iU.Ft,iW _ iU.Fd⟩ e1) h hj;rw[ho]at Be;cases Be;exact⟨gT,SN⟩
   ·rw[hd];refine ih t2 _ _ F O w wm (by omega) (hT.set _ (λ_=>rfl) (by omega) fC) iU hF iW (by rw[fA (by omega)];exact iy) (λh1=>?_) (λh1=>?_) (λh1=>?_)
    ·rw[fA (by omega)]at h1;show jd F ((T.setIfInBounds (6+j) _).getD 16 ac) w;rw[qz (by omega)];exact iQ h1
    ·rw[fA (by omega)]at h1;exact YE h1
    ·rw[fA (by omega)]at h1;show(T.setIfInBounds (6+j) _).getD 17 ac=_;rw[qz (by omega)];exact jA h1
  ·-- the call
   have Tg:listed.getD 10 false=false:=by
    have eH:10<listed.size:=by omega
    simp[eH]at kR⊢;exact kR
   obtain⟨rfl,rfl,e0⟩:=YE Tg;obtain⟨o,ho,eU,hd,hg⟩:∃o,vz[10]?=some o/\o.op=.call {callee:=.value (.func 56),args:=#[.tmp 13,.tmp 14,.tmp 15],argTypes:=#[77,9,9]}/\o.dst=some 16/\o.guard=none:=⟨_,rfl,rfl,rfl,rfl⟩
   have a7:=hT.val 7 (by omega) (A7 hj (o:=_) rfl 0 ⟨7,.data⟩ rfl rfl);have a8:=hT.val 8 (by omega) (A7 hj (o:=_) rfl 1 ⟨8,.data⟩ rfl rfl);have a9:=hT.val 9 (by omega) (A7 hj (o:=_) rfl 2 ⟨9,.data⟩ rfl rfl);have eY:aa o (ax vz (ah T ds).tmps)=true:=by unfold aa;rw[hg]
   have ev:∀w1,(ai (ah T ds).eval o).run prog w1=.ok (.enter 56 #[dp,s,t]) w1/\(ai (ah T ds).eval o).events prog w1 #[]=#[]:=λw1=>by
    have b7:(ah T ds).eval (.tmp 13)=dp:=a7;have b8:(ah T ds).eval (.tmp 14)=s:=a8;have b9:(ah T ds).eval (.tmp 15)=t:=a9;generalize he:(ah T ds).eval=e at*;have bf:e (.func 56)=.func (.func 56) #[] #[]:=by rw[<-he];rfl
    unfold ai;constructor
    ·simp[go_sem,eU,b7,b8,b9,bf]
    ·simp[go_sem,eU,b7,b8,b9,bf];simp[dv,go_sem,func56,Tryz.f56]
   have jO:∀x,F x->F x/\¬(λ_=>False:Blocks) x/\x<w.heap.size:=λx hx=>⟨hx,λh=>h,hF.low x hx⟩
   refine WG.quiet rfl hF λw1 e1=>⟨_,0,_,cq ho eY hk (ev w1).1,λe' he=>?_,?_⟩
   ·have:=bi he;rw[(ev w1).2]at this;simp at this
   refine WG.then (WG.keep (F0:=F) (lg _ w1 (e0.trans e1)) (λx hx=>⟨hx,λh=>h,xll (hF.low x hx) e1.size⟩) (Ext.refl F w1)) ?_;rintro F1 O1 g1 w2 ⟨⟨zW,v,hv,fu,BG⟩,e2,jid⟩;have SC:=iU.ext (e1.trans e2);refine WG.ctl fu zW (BG _ _ rfl) ?_;rw[Frame.finish_at,ho];show WG _ _ _ _ _ (G (b.at ((ah T ds).put o.dst v) _) cs) w2;rw[hd];refine ih t2 _ _ F1 O1 w2 wm (by omega) (hT.set (j:=10) v (λh=>by omega) (by omega) fC) SC zW (λx hx=>(jid x hx).1) (by rw[fA (by omega)];exact iy) (λ_=>?_) (λh1=>?_) (λh1=>?_)
   ·show jd F1 ((T.setIfInBounds (6+10) v).getD 16 ac) w2;rw[vw (by rw[hT.size];omega)];exact hv
   ·have eH:10<listed.size:=by omega
    simp[eH]at h1
   ·rw[fA (by omega)]at h1;show(T.setIfInBounds (6+10) v).getD 17 ac=_;rw[qz (by omega)];exact jA h1
  ·-- the index
   have a0:=hT.val 0 (by omega) (A7 hj (o:=_) rfl 0 ⟨0,.data⟩ rfl rfl);have mJ:=A7 hj (o:=_) rfl 11 ⟨10,.phase⟩ rfl rfl;obtain⟨o,ho,eU,hd,hg⟩:∃o,vz[11]?=some o/\o.op=.indexAddr 112 (.tmp 5) (.tmp 6)/\o.dst=some 17/\o.guard=none:=⟨_,rfl,rfl,rfl,rfl⟩
   have eY:aa o (ax vz (ah T ds).tmps)=true:=by unfold aa;rw[hg]
   have I9:((i:Int)<4):=by omega
   refine WG.value (.pointer (some ⟨C,i,none⟩)) hF ho eY hk (λw1 e1=>?_) ?_
   ·have b5:(ah T ds).eval (.tmp 5)=.pointer (some ⟨C,0,none⟩):=hT.t5;have b6:(ah T ds).eval (.tmp 6)=.int .i64 i:=a0;generalize he:(ah T ds).eval=e at*;unfold ai;constructor
    ·simp[go_sem,eU,b5,b6,I9]
    ·simp[go_sem,eU,b5,b6,I9,Instr.indexAt];intro e h4;omega
   ·rw[hd];refine ih t2 _ _ F O w wm (by omega) (hT.set (j:=11) _ (λh=>by omega) (by omega) fC) iU hF iW (by rw[fA (by omega)];exact iy) (λh1=>?_) (λh1=>?_) (λ_=>?_)
    ·show jd F ((T.setIfInBounds (6+11) _).getD 16 ac) w;rw[qz (by omega)];exact iQ mJ
    ·rw[fA (by omega)]at h1;rw[mJ]at h1;cases h1
    ·show(T.setIfInBounds (6+11) _).getD 17 ac=_;rw[vw (by rw[hT.size];omega)]
  ·-- the store
   have mJ:=A7 hj (o:=_) rfl 1 ⟨10,.data⟩ rfl rfl;have kY:=A7 hj (o:=_) rfl 0 ⟨11,.data⟩ rfl rfl;have gm:∀j,j<12->listed.getD j false=true:=λj Sz=>by
    have ra:=λq e=>A7 hj (o:=_) rfl q e;match j,Sz with
    |0,_=>exact ra 3 ⟨0,.phase⟩ rfl rfl
    |1,_=>exact ra 4 ⟨1,.phase⟩ rfl rfl
    |2,_=>exact ra 5 ⟨2,.phase⟩ rfl rfl
    |3,_=>exact ra 6 ⟨3,.phase⟩ rfl rfl
    |4,_=>exact ra 7 ⟨4,.phase⟩ rfl rfl
    |5,_=>exact ra 8 ⟨5,.phase⟩ rfl rfl
    |6,_=>exact ra 9 ⟨6,.phase⟩ rfl rfl
    |7,_=>exact ra 10 ⟨7,.phase⟩ rfl rfl
    |8,_=>exact ra 11 ⟨8,.phase⟩ rfl rfl
    |9,_=>exact ra 12 ⟨9,.phase⟩ rfl rfl
    |10,_=>exact mJ
    |11,_=>exact kY
   have BF:ay .any vz fuel t2 (listed.setIfInBounds 12 true) []=[]:=jcp λj I7=>by
    have h1:=(bQ.1 I7).1;have hj13':j<13:=by
     obtain⟨_,o,ho,_⟩:=bQ.1 I7;have:=(zi ho).1;rwa [OG]at this
    by_cases zX:j=12
    ·subst zX;have eH:12<listed.size:=by omega
     simp[eH]at h1
    ·rw[co true (aU zX)]at h1;have h2:=gm j (by omega);have eH:j<listed.size:=by omega
     simp[eH]at h1 h2;rw[h1]at h2;cases h2
   rw[BF];exact WG.stop λw1 e1=>fB F O w1 T _ (hF.ext e1) iW (jl _ _ _ _ (iQ mJ) e1) rfl (jA kY) hT.size
end
end
section
open Go.Conc Go.ConcN Go.RowKit Go.Conc.Lib Go.ConcR.Gen Go.ConcN.Gen Go Sim
open Go.ConcR (KK wgBlock WgAt stA smA rd wr mk Payload Aside2 DC0 ofEvent_cell)
instance:Payload:=⟨112⟩
abbrev fW:aA:=54
def bW:al:=baseD fW
noncomputable def wD:al:={(default:al)with fn:=prog.funcs.size,defers:=[],mode:=.panicking [goexitEntry]}
noncomputable def Py:Code:=Tryz.f54.body.getD .skip
theorem jiy:(prog.funcs[bW.fn]?).any (·.norace)=false:=by kernel_rfl
def Am (Wg cb kb fb tb C:Nat):dq:={target:=.fn (.func fW) #[.pointer (some ⟨Wg,0,none⟩),.pointer (some ⟨cb,0,none⟩),.pointer (some ⟨kb,0,none⟩),.pointer (some ⟨fb,0,none⟩),.pointer (some ⟨tb,0,none⟩),.pointer (some ⟨C,0,none⟩)],args:=#[]}
theorem jdr (T:Array ag):QuitsD prog 2 0 (G {bW.at ⟨T,[]⟩ []with mode:=.returning} [wD]):=by
 refine QuitsD.ctl (g':=G wD []) rfl (λw=>?_) ?_
 ·simp[G,aP,unwind,doReturn,results,Frame.at,bW,baseD,wD,func54,Tryz.f54,seen,GStep.after,goexitEntry]
 refine QuitsD.ctl (g':={G wD []with status:=.finished}) rfl (λw=>?_) ⟨rfl,rfl⟩;simp[G,aP,unwind,wD,goexitEntry,Frame.catches];rfl
theorem qun (Wg cb kb fb tb C:Nat) (w:ae):aP prog false (born prog (Am Wg cb kb fb tb C)) w=
  .go (G (bW.at ⟨#[.pointer (some ⟨Wg,0,none⟩),.pointer (some ⟨cb,0,none⟩),.pointer (some ⟨kb,0,none⟩),.pointer (some ⟨fb,0,none⟩),.pointer (some ⟨tb,0,none⟩),.pointer (some ⟨C,0,none⟩),ac,ac,ac,ac,ac,ac,ac,ac,ac,ac,ac,ac],[]⟩ [.code Py]) [wD]) w #[]:=by
 simp[born,Am,aP,unwind,callDeferred,invoke,dv,func54,Tryz.f54,seen,GStep.after,G,ao,Frame.at,bW,baseD,wD,Py]
section
variable {main:Bool} {b:al} {a:Act} {kk:List Item} {cs:List al} {w:ae} {ops:Array Oper} {i:Nat} {rest:List Nat} {o:Oper}
theorem qra {x y:cM} (ho:ops[i]?=some o) (hw:aa o (ax ops a.tmps)=true) (hk:b.kind≠.early) (eU:o.op=.store 47 x y) {u:ag} (hx:a.eval x=.pointer (some ad)) (hy:a.eval y=.slice sa n c) (hc:w.cell? ad=some u) (hz:w.frozen? ad=false) (hq:(prog.funcs[b.fn]?).any (·.norace)=false):
  aP prog main (G (b.at a (.inRegion ops (i::rest)::kk)) cs) w=.go (G (b.at (a.put o.dst ac) (.inRegion ops rest::kk)) cs) (w.setCell ad (.slice sa n c)) #[⟨.cell ad,true,false⟩]:=by
 have hr:(ai a.eval o).run prog w=.ok .skip (w.setCell ad (.slice sa n c)):=by
  unfold ai;simp only[eU,hx,hy];simp[go_sem,stored,hc,hz]
 have he:(ai a.eval o).events prog w #[]=#[⟨.cell ad,true,false⟩]:=by
  unfold ai;simp only[eU,hx,hy];simp[go_sem,storedEv,hc,hz]
 rw[stepG_none ho hw hk hr];unfold listed;rw[he,seen_eq hq (by simp)]
end
section
variable {C n i:Nat} {w:ae}
theorem q42 (hp:PayAt C n w) (hj:i<n):∃u,w.cell? ⟨C,i,none⟩=some u/\w.frozen? ⟨C,i,none⟩=false:=by
 obtain⟨arr,h1,h2⟩:=hp;exact⟨arr[i]'(by omega),by simp[aH,h1,h2,hj],by simp[cC,h1]⟩
end
theorem q4b:(Tryz.f55.name== "runtime.NumGoroutine")=false:=by kernel_rfl
section
variable {i C Wg:Nat}
theorem jkh (T:Array ag) (v:ag) (hK:WgLive link.tWg Wg w/\Has C i v w):
  Goes prog false (RW link.tWg Wg C 4 0 i) (DWs Wg rV rV C 4 (i+1)) (AtR0 prog link.tWg Wg C 4 0 (i+1) v) 26 (G (bW.at ⟨T,[dcall 55 #[.pointer (some ⟨Wg,0,none⟩)]]⟩ (.inRegion vz []::[])) [wD]) w:=by
 have hA:= @doneN _ link prog J2 rV rV Wg C 4 0 (i+1) v
 u_c aq kn_rely hK
 u_c stepG_end kn_rely hK
 u_in kn_rely hK
 rw[stepG_unwind_enter rfl func55 q4b rfl];simp only[bK];refine⟨by u_nil,?_⟩
 walk_nrmf Tryz.f55
 simp only[body_done,doneFn,Option.getD_some]at hA;exact hA rfl (jdr T) _ hK
theorem je7 {T:Array ag} {v:ag} (hi:i<4) (hCW:C≠Wg) (hR:jd i F v w) (hsl:∃sa n c,v=.slice sa n c) (Q5:T.getD 16 ac=v) (Q0:T.getD 17 ac=.pointer (some ⟨C,i,none⟩)):
  FO prog link.tWg Wg C 4 jd i F O (G (bW.at ⟨T,[dcall 55 #[.pointer (some ⟨Wg,0,none⟩)]]⟩ (.inRegion vz [12]::[])) [wD]) w:=by
 refine⟨rfl,v,hR,λw1 e1 hp hl=>?_⟩;obtain⟨u,sU,zK⟩:=q42 (i:=i) hp hi;obtain⟨sa,n,c,rfl⟩:=hsl;obtain⟨o,ho,eU,hd,hg⟩:∃o,vz[12]?=some o/\o.op=.store 47 (.tmp 17) (.tmp 16)/\o.dst=none/\o.guard=none:=⟨_,rfl,rfl,rfl,rfl⟩
 have eY:aa o (ax vz (ah T [dcall 55 #[.pointer (some ⟨Wg,0,none⟩)]]).tmps)=true:=by unfold aa;rw[hg]
 have hst:=qra (main:=false) (b:=bW) (kk:=[]) (cs:=[wD]) (rest:=[]) ho eY (by decide) eU (Q0:(ah T _).eval (.tmp 17)=_) (Q5:(ah T _).eval (.tmp 16)=_) sU zK jiy;have hK:=aN (let⟨st,sm,h⟩:=hl;(⟨st,sm,h.of_block ((aY _ ⟨C,i,none⟩ (.slice sa n c)).block Wg (aU hCW))⟩:WgLive link.tWg Wg (w1.setCell ⟨C,i,none⟩ (.slice sa n c)))) (q8e (i:=i) hp hi (.slice sa n c));rw[hd]at hst;exact⟨_,hst,26,jkh T _ hK⟩
theorem qrc:Region.departs vz=false:=by kernel_rfl
theorem qwt {mixed:Bool} {t:Nat}:Region.schedule mixed vz t=ay .any vz 13 t (ce 13 false) []:=by
 unfold Region.schedule;rw[qrc];simp only[Bool.not_false,Bool.or_true,if_true];unfold Region.linearise;rw[OG]
theorem jak {fb:Nat} {dp s t:ag} {F0:Blocks} (hi:i<4) (hCW:C≠Wg) (jl:∀F v w w1,jd i F v w->Ext F w w1->jd i F v w1) (hsl:∀F v w,jd i F v w->∃sa n c,v=.slice sa n c)
  (iU:Dl F0 kb cb fb tb cl i dp s t w) (hF:FOk F0 (λ_=>False) w)
  (lg:∀(c:al) (cs:List al) (w1:ae),Ext F0 w w1->WG prog false (AtRet prog (jd i) (c::cs)) F0 (λ_=>False) (G (ao prog 56 #[dp,s,t] .normal) (c::cs)) w1):
  Script prog link.tWg Wg C 4 jd i F0 (born prog (Am Wg cb kb fb tb C)) w:=by
 refine⟨F0,λ_ h=>h,?_⟩;refine WG.ctl rfl hF (qun Wg cb kb fb tb C) ?_;have hb:Py=.seq (.region 0 #[{dst:=none,op:=.defer {callee:=.value (.func 55),args:=#[.tmp 0],argTypes:=#[122]},type:=0,pos:= "cluster.go:120",after:=#[],guard:=none}] false) (.region 1 vz true):=rfl;rw[hb];refine WG.ctl rfl hF (λw1=>aC) ?_;refine WG.ctl rfl hF (λw1=>az) ?_;refine WG.ctl rfl hF (λw1=>stepG_defer rfl rfl (by decide) rfl) ?_
 walk_nrm
 refine WG.ctl rfl hF (λw1=>aq) ?_;refine WG.quiet rfl hF λw1 e1=>⟨_,1,#[],stepG_region_draw,by simp,?_⟩
 rw[qwt];show WG _ _ _ _ _ (G (bW.at ⟨#[.pointer (some ⟨Wg,0,none⟩),.pointer (some ⟨cb,0,none⟩),.pointer (some ⟨kb,0,none⟩),.pointer (some ⟨fb,0,none⟩),.pointer (some ⟨tb,0,none⟩),.pointer (some ⟨C,0,none⟩),ac,ac,ac,ac,ac,ac,ac,ac,ac,ac,ac,ac],[dcall 55 #[.pointer (some ⟨Wg,0,none⟩)]]⟩ _) _) _;refine wReg (Stop:=FO prog link.tWg Wg C 4 jd i) (ds:=[dcall 55 #[.pointer (some ⟨Wg,0,none⟩)]]) (b:=bW) (k:=[]) (cs:=[wD]) (jd:=jd i) (F0:=F0) (w0:=w) (C:=C) (Wg:=Wg) hi (by decide) jl (λc w1 e=>lg c [wD] w1 e)
  (λF O w T v _ _ hR Q5 Q0 _=>je7 hi hCW hR (hsl _ _ _ hR) Q5 Q0) 13 _ (ce 13 false) _ F0 (λ_=>False) _ rfl rfl ?_ (iU.ext ?_) (hF.ext ?_) (λ_ h=>h) rfl ?_ ?_ ?_
 ·refine⟨rfl,rfl,rfl,rfl,rfl,rfl,λj hj h=>?_⟩;have:(ce 13 false).getD j false=false:=by
   have P9:j<13:=by omega
   simp[P9]
  rw[this]at h;cases h
 ·exact⟨e1.size,e1.keep⟩
 ·exact⟨e1.size,e1.keep⟩
 ·intro h;cases h
 ·exact λ_=>⟨rfl,rfl,⟨e1.size,e1.keep⟩⟩
 ·intro h;cases h
end
end
end Ph
namespace Sim
open Go Go.Conc
def J7 (P:aF) (f:aA) (R:ag->ae->Prop) (fr:al) (cs:List al) (w:ae):Prop:=cs=[c0]/\fr.fn=f/\∃v,fr.leaving P w (.returned v)/\R v w
section
variable {X:Cx} {Fb:aA->Bool} {wr:Bool}
theorem Xm (S:X.Set Fb wr (λ_=>false)) {args:Array ag} (hinv:Inv X Fb wr (ao X.P f args .normal) [c0] w) (hR:∀v w τ,R v (re w τ)->R v w)
  (hc:∀τ,Agree w τ->bB X.P f args (re w τ) fun|.returned v,w'=>R v w'|_,_=>False):nQ X.P (J7 X.P f R) (ao X.P f args .normal) [c0] w:=by
 refine bar S (λfr cs w h=>?_) (λfr cs w τ hi ha h=>?_) hinv (λτ ha=>?_)
 ·obtain⟨-,-,v,h,-⟩:=h;intro ch e;rw[h.1]at e;cases e
 ·obtain⟨e,SK,v,⟨h1,h2,h3,fn,h4,h5⟩,hr⟩:=h;refine⟨e,SK,v,⟨h1,h2,h3,fn,h4,?_⟩,hR _ _ _ hr⟩;obtain⟨ρ,fw,up,up',w',e0,hf,-,hw,-,-⟩:=hi.re τ;rcases fu:(results fn fr.tmps).runT X.P (re w τ) #[]with⟨r0,gM⟩
  have h5':r0=.ok v (re w τ):=by rw[<-h5,<-bm X.P _ _ #[],fu]
  subst h5';obtain⟨d1,d2,d3⟩:=(SS.results (f:=fn) S.ok hf.tmps).loc hw fu;have:=d3 w.tape (λi q hi=>(ha i q hi).symm);rw[<-bm X.P _ _ #[]];have e:re (re w τ) w.tape=w:=rfl;rw[e]at this;rw[this];rfl
 ·obtain⟨e,w',fr,QN,EU,uO,ET⟩:=hc τ ha [c0];cases e with
  |panicked chain=>exact QN.elim
  |outgrown=>exact QN.elim
  |returned v=>
   obtain⟨n,hn⟩:=EU;exact conv S (Q:=J7 X.P f R) ⟨rfl,uO,v,ET,QN⟩ n (.inl (hinv.re τ)) hn
end
end Sim
namespace Ph
section
open Go Go.Conc Go.ConcN Sim
theorem WG.frame {P:aF} {main:Bool} {H:Blocks}:∀{F O:Blocks} {g:am} {w:ae},WG P main Stop F O g w->(∀b,H b->b<w.heap.size)->
  WG P main (λF' O g w=>∃F,Stop F O g w/\(∀b,F' b↔F b\/H b)/\∀b,H b->b<w.heap.size) (λb=>F b\/H b) O g w:=by
 rintro F O g w ⟨r,h⟩;induction r generalizing F O g w with
 |leaf=>exact λhH=>WG.stop λw1 e=>⟨F,h w1 (e.sub λb hb=>.inl hb),λ_=>Iff.rfl,λb hb=>xll (hH b hb) e.size⟩
 |node f ih=>
  intro hH;refine WG.step h.1 λw1 e=>?_;obtain⟨F',O',g',w',es,h1,h2,h3⟩:=h.2 w1 (e.sub λb hb=>.inl hb);have ZF:∀b,H b->b<w1.heap.size:=λb hb=>xll (hH b hb) e.size;refine⟨λb=>F' b\/H b,O',g',w',es,h1,⟨λb hb=>hb.imp (h2.sub b) id,h2.PZ,λb hb=>?_,h2.BI,λb hb=>.inl (h2.own b hb),h2.keep,h2.size,λb hb=>hb.elim (h2.low b) λx=>xll (ZF b x) h2.size,h2.drawn,h2.tape,h2.os,h2.output,λx hx=>?_,h2.nb⟩,ih w1 h3 λb hb=>xll (ZF b hb) h2.size⟩
  ·rcases hb with hb|hb
   ·exact(h2.new b hb).imp .inl id
   ·exact .inl (.inr hb)
  ·have:=h2.ev x hx;obtain⟨loc,wt,sy⟩:=x;cases loc with
   |cell a=>exact⟨this.1,.inl this.2.1,this.2.2⟩
   |obj r=>exact⟨this.1,.inl this.2.1,this.2.2⟩
   |mark m=>cases m<;>exact this
   |_=>exact this
theorem VE {T:Array ag}:(results Tryz.f56 T).runT prog w #[]=(.ok (T.getD 6 ac) w,#[]):=by
 have e:Tryz.f56.results=#[.tmp 6]:=rfl;simp[results,e,go_sem]
theorem qoq {T:Array ag} {v:ag} (h:(results Tryz.f56 T).run prog w=.ok v w'):v=T.getD 6 ac:=by
 rw[<-bm _ _ _ #[],VE]at h;injection h with h _;exact h.symm
theorem q2x {fn:Func} (h:prog.funcs[f]?=some fn) (e:f=56):fn=Tryz.f56:=by
 rw[e,func56]at h;exact(xoi h).symm
def dm (db mb:Nat):Nat->Prop:=λb=>b=db\/b=mb
def rdm (db mb:Nat):Rel:=λa b=>a=b/\dm db mb a
def BL (db mb:Nat) (m:ag) (w:ae):ae:={w with heap:=w.heap.mapIdx λb o=>if b=db then .cells #[m] 142 (0,1)else if b=mb then o else .cells #[] 0}
section
variable {db mb:Nat} {es:Array bI} {clock:Nat} {s t:ByteArray} {F0:Blocks} {w1:ae} {R:ag->ae->Prop} {jd:Blocks->ag->ae->Prop}
theorem q41 (hF:FOk F0 (λ_=>False) w1) (xV:F0 db) (Zi:F0 mb) (fA:db≠mb) (hd:w1.heap[db]?=some (.cells #[.map (some mb)] 142 (0,0))) (hm:w1.heap[mb]?=some (.map es clock)) (jX:∀(F:aA->Prop) ρ,EsR F ρ es.toList es.toList)
  (yH:∀wl,wl.heap[db]?=some (.cells #[.map (some mb)] 142 (0,1))->wl.heap[mb]?=some (.map es clock)->bB prog 56 #[.pointer (some ⟨db,0,none⟩),.string s,.string t] wl fun|.returned v,w'=>R v w'|_,_=>False)
  (hR:∀v w τ,R v (re w τ)->R v w)
  (htr:∀ρ v v' w w',R v w->VR (λf=>fbP f=true) ρ v v'->WN (XW (dm db mb)) ρ w w'->jd (rng ρ) v' w') (hmono:∀F F' v w,jd F v w->(∀b,F b->F' b)->jd F' v w) (c:al) (cs:List al):
  WG prog false (AtRet prog jd (c::cs)) F0 (λ_=>False) (G (ao prog 56 #[.pointer (some ⟨db,0,none⟩),.string s,.string t] .normal) (c::cs)) w1:=by
 have S:=jjv (dm db mb);have eH:db<w1.heap.size:=(zi hd).1;have hltm:mb<w1.heap.size:=(zi hm).1;have i1:(BL db mb (.map (some mb)) w1).heap[db]?=some (.cells #[.map (some mb)] 142 (0,1)):=by
  simp only[BL,Array.getElem?_mapIdx,hd,dk,if_true]
 have i2:(BL db mb (.map (some mb)) w1).heap[mb]?=some (.map es clock):=by
  simp only[BL,Array.getElem?_mapIdx,hm,dk,if_neg (aU fA),if_true]
 have qY:WR (XW (dm db mb)) (rdm db mb) (BL db mb (.map (some mb)) w1) w1:=by
  refine⟨λh h'=>h.1.symm.trans h'.1,λh h'=>h.1.trans h'.1.symm,λ{a b} iw=>?_,λ_ _=>rfl,λa ha=>?_⟩
  ·obtain⟨rfl,h|h⟩:=iw
   ·subst h;exact⟨_,_,i1,hd,.cells (.cons (.map ⟨rfl,.inr rfl⟩) .nil) (.inr rfl)⟩
   ·subst h;exact⟨_,_,i2,hm,.map (jX _ _)⟩
  ·rcases ha with h|h
   ·subst h;exact .inl ⟨_,_,1,i1,by simp⟩
   ·subst h;exact .inr ⟨_,_,i2⟩
 have Gf:NB (BL db mb (.map (some mb)) w1):=trivial;have ic:zm (λf=>fbP f=true) (rdm db mb) [.pointer (some ⟨db,0,none⟩),.string s,.string t] [.pointer (some ⟨db,0,none⟩),.string s,.string t]:=.cons (.ptr ⟨rfl,.inl rfl⟩) (.cons (.string s) (.cons (.string t) .nil));have hFb:(XW (dm db mb)).F 56:=by show fbP _=true;decide
 have tJ:FR (XW (dm db mb)) fbP false (rdm db mb) (ao prog 56 #[.pointer (some ⟨db,0,none⟩),.string s,.string t] .normal) (ao prog 56 #[.pointer (some ⟨db,0,none⟩),.string s,.string t] .normal):=Vn S hFb rfl ic;have hB:Bot [ao prog 56 #[.pointer (some ⟨db,0,none⟩),.string s,.string t] .normal]:=by
  intro f hf;simp at hf;subst hf;rfl
 have hinv:Inv (XW (dm db mb)) fbP false (ao prog 56 #[.pointer (some ⟨db,0,none⟩),.string s,.string t] .normal) [c0] (BL db mb (.map (some mb)) w1):=⟨rdm db mb,_,[],[],w1,rfl,tJ,.nil,qY,Gf,hB⟩
 have YQ:=Xm S hinv hR λτ _=>yH (re (BL db mb (.map (some mb)) w1) τ) i1 i2;have QO:∀fr cs w,J7 prog 56 R fr cs w->∀ch,fr.mode≠.panicking ch:=λfr cs w ⟨_,_,v,h,_⟩ ch e=>by rw[h.1]at e;cases e
 have hgo:=jea S false (c::cs) QO YQ (up:=[]) (up':=[]) rfl tJ .nil (WN.of qY) Gf hB;have Yw:=WG.frame (H:=F0) hgo hF.low;have eF:(λb=>rng (rdm db mb) b\/F0 b)=F0:=by
  funext b;refine propext ⟨λh=>h.elim (λ⟨a,h1,h2⟩=>?_) id,.inr⟩;subst h1;rcases h2 with rfl|rfl
  ·exact xV
  ·exact Zi
 have eO:own (XW (dm db mb)) (rdm db mb)=λ_=>False:=by
  funext b;exact propext ⟨λ⟨a,h1,h2⟩=>h2 h1.2,False.elim⟩
 rw[eF,eO]at Yw;refine WG.then Yw ?_;rintro F' O g w ⟨F,hst,lG,jO⟩;refine WG.stop λw2 e2=>?_;cases hst with
 |special _ h=>cases h
 | @done ρ fr fw up up' wl w' h1 h2 h3 h4 h5 h6=>
  obtain⟨hc,uO,v,tF,hr⟩:=h6;have pK:up=[]:=by
   have:=congrArg bJ hc;simp at this;exact au (by simpa using this)
  subst pK;cases h2;obtain⟨l1,l2,l3,fn,l4,l5⟩:=tF;have ZJ:=h3.ext (e2.sub λb hb=>(lG b).2 (.inl hb));obtain rfl:=q2x l4 uO;obtain rfl:=qoq l5;have IJ:VR (λf=>fbP f=true) ρ (fr.tmps.getD 6 ac) (fw.tmps.getD 6 ac):=zm.Dt h1.tmps 6;refine⟨⟨λb hb=>?_,λb hb=>?_⟩,fw.tmps.getD 6 ac,hmono _ _ _ _ (htr ρ _ _ _ _ hr IJ ZJ) (λb hb=>(lG b).2 (.inl hb)),rfl,λc' fJ e w3=>?_⟩
  ·rcases(lG b).1 hb with⟨a,iw⟩|hb
   ·obtain⟨τ,_,k⟩:=ZJ;obtain⟨o,o',_,k2,_⟩:=k.heap iw;exact(zi k2).1
   ·exact xll (jO b hb) e2.size
  ·obtain⟨a,iw,_⟩:=hb;exact(lG b).2 (.inl ⟨a,iw⟩)
  ·cases e;have m1:fw.mode=.returning:=h1.mode.trans l1;have m2:fw.defers=[]:=by
    have:=h1.defers;rw[l2]at this;generalize fw.defers=d at this;cases this;rfl
   have m3:prog.funcs[fw.fn]?=some Tryz.f56:=by
    rw[h1.fn,uO];exact func56
   show aP prog false (G fw (c::cs)) w3=_;rw[yj _ _ _ _ _ m1];obtain⟨Gq,J3,YF,G5,GA,GK,TM⟩:=fw;obtain rfl:GK=.normal:=h1.kind';obtain rfl:G5=[]:=m2;obtain rfl:GA=.returning:=m1;have m3:prog.funcs[Gq]?=some Tryz.f56:=m3;unfold unwind;dsimp only;rw[m3];dsimp only;rw[VE];rfl
end
end
section
open Go.Conc Go.ConcN Go.RowKit Go.Conc.Lib Go.ConcR.Gen Go.ConcN.Gen Go Sim
open Go.ConcR (KK wgBlock WgAt stA smA rd wr mk Payload Aside2 DC0 ofEvent_cell)
section
variable {P:aF} {ty:cU} {Wg:Nat} {F:Blocks} {w0:ae} {Stop:am->ae->Prop}
theorem qzd:∀(m:Nat) {g:am} {w:ae},Goes P true (RM ty Wg F) DC0 Stop m g w->Ext F w0 w->Goes P true (RM ty Wg F) DC0 (λg w=>Stop g w/\Ext F w0 w) m g w:=by
 intro m;induction m with
 |zero=>exact λh e w1 r=>⟨h w1 r,e.trans r.ext⟩
 |succ m ih=>
  intro g w h e;rcases h with h|⟨h1,h2⟩
  ·exact .inl λw1 r=>⟨h w1 r,e.trans r.ext⟩
  ·refine .inr ⟨h1,λw1 r=>?_⟩;have:=h2 w1 r;cases hs:aP P true g w1 with
   |go g' w' es=>
    rw[hs,bK]at this;rw[bK];refine⟨this.1,ih this.2 ?_⟩;obtain⟨rfl,_⟩:=this.1;exact e.trans r.ext
   |_=>rw[hs]at this;exact this.elim
theorem MG.keep (h:MG P ty Wg F Stop g w) (e:Ext F w0 w):MG P ty Wg F (λg w=>Stop g w/\Ext F w0 w) g w:=let⟨m,h⟩:=h;⟨m,qzd m h e⟩
theorem qvf {l9:am->ae->Prop} (hs:∀g w,Stop g w->l9 g w):∀(m:Nat) {g:am} {w:ae},Goes P true (RM ty Wg F) DC0 Stop m g w->Goes P true (RM ty Wg F) DC0 l9 m g w:=by
 intro m;induction m with
 |zero=>exact λh w1 r=>hs _ _ (h w1 r)
 |succ m ih=>
  intro g w h;rcases h with h|⟨h1,h2⟩
  ·exact .inl λw1 r=>hs _ _ (h w1 r)
  ·refine .inr ⟨h1,λw1 r=>?_⟩;have:=h2 w1 r;cases hs:aP P true g w1 with
   |go g' w' es=>
    rw[hs,bK]at this;rw[bK];exact⟨this.1,ih this.2⟩
   |_=>rw[hs]at this;exact this.elim
theorem MG.mono {l9:am->ae->Prop} (h:MG P ty Wg F Stop g w) (hs:∀g w,Stop g w->l9 g w):MG P ty Wg F l9 g w:=let⟨m,h⟩:=h;⟨m,qvf hs m h⟩
theorem jQ.keep {m:Mark} {K':am->ae->Prop} (h:jQ P m K g w) (hk:∀g,K g w->K' g w):jQ P m K' g w:=
 ⟨h.1,let⟨g',h1,h2⟩:=h.2;⟨g',h1,hk _ h2⟩⟩
theorem q77 {v:ag} (hW:¬F Wg) (e:Ext F w0 w):Ext F w0 (w.setCell (stA Wg) v):=
 e.trans ⟨Nat.le_of_eq (aY w (stA Wg) v).size.symm,λb hb=>(aY w (stA Wg) v).block b λ(x:b=Wg)=>hW (by rw[<-x];exact hb)⟩
theorem q1u (hW:¬F Wg) (h:MG P ty Wg F (jQ P .disable (MG P ty Wg F (xE P ty Wg F (MG P ty Wg F K)))) g w) (e:Ext F w0 w):
  MG P ty Wg F (jQ P .disable (MG P ty Wg F (xE P ty Wg F (MG P ty Wg F (λg w=>K g w/\Ext F w0 w))))) g w:=by
 refine(h.keep e).mono λg w ⟨h1,e1⟩=>h1.keep λg h2=>(h2.keep e1).mono λg w ⟨h3,e3⟩=>⟨h3.1,λv hv hw=>?_⟩
 obtain⟨g',k1,k2⟩:=h3.2 v hv hw;have e4:Ext F w0 (w.setCell (stA Wg) (.int .u64 ((v+1)*KK))):=q77 hW e3;refine⟨g',k1,k2.imp (λ⟨a,b⟩=>⟨a,?_⟩) (λ⟨a,b⟩=>⟨a,?_⟩)⟩
 ·exact(b.keep e4).mono λg w ⟨b1,e5⟩=>b1.keep λg b2=>(b2.keep e5).mono λg w ⟨b3,e6⟩=>b3.keep λg b4=>b4.keep e6
 ·exact(b.keep e4).mono λg w ⟨b1,e5⟩=>b1.keep λg b4=>b4.keep e5
theorem q1v {K':am->ae->Prop} (hs:∀g w,K g w->K' g w) (h:MG P ty Wg F (jQ P .disable (MG P ty Wg F (xE P ty Wg F (MG P ty Wg F K)))) g w):
  MG P ty Wg F (jQ P .disable (MG P ty Wg F (xE P ty Wg F (MG P ty Wg F K')))) g w:=
 h.mono λg w h1=>h1.keep λg h2=>h2.mono λg w h3=>⟨h3.1,λv hv hw=>by
  obtain⟨g',k1,k2⟩:=h3.2 v hv hw;refine⟨g',k1,k2.imp (λ⟨a,b⟩=>⟨a,?_⟩) (λ⟨a,b⟩=>⟨a,?_⟩)⟩
  ·exact b.mono λg w b1=>b1.keep λg b2=>b2.mono λg w b3=>b3.keep λg b4=>b4.mono hs
  ·exact b.mono λg w b1=>b1.keep λg b4=>b4.mono hs⟩
end
abbrev fS:aA:=27
def bS:al:=base fS
noncomputable def uG:Code:=Tryz.f27.body.getD .skip
noncomputable def Cb:Code:=match uG with|.seq _ (.seq _ (.seq _ (.seq _ c)))=>c|_=>.skip
noncomputable def sL:Code:=match Cb with|.seq (.seq _ (.block _ (.loop c))) _=>c|_=>.skip
noncomputable def sR:Code:=match Cb with|.seq _ c=>c|_=>.skip
noncomputable def sIn:Code:=match sL with|.seq _ (.seq _ (.seq (.block _ c) _))=>c|_=>.skip
noncomputable def rg:Code->Array Oper|.region _ ops _=>ops|_=>#[]
noncomputable def R6:Array Oper:=match sL with|.seq a _=>rg a|_=>#[]
noncomputable def R10:Array Oper:=match sL with|.seq _ (.seq _ (.seq _ a))=>rg a|_=>#[]
noncomputable def R7:Array Oper:=match sIn with|.seq a _=>rg a|_=>#[]
noncomputable def R8:Array Oper:=match sIn with|.seq _ (.seq a _)=>rg a|_=>#[]
noncomputable def R9:Array Oper:=match sIn with|.seq _ (.seq _ a)=>rg a|_=>#[]
theorem jjo:sL=.seq (.region 6 R6 false) (.seq (.cond (.tmp 19) .skip (.exit 0)) (.seq (.block 1 sIn) (.region 10 R10 false))):=rfl
theorem jd1:sIn=.seq (.region 7 R7 false) (.seq (.region 8 R8 false) (.region 9 R9 false)):=rfl
structure ScT (kb cb fb tb C Wg:Nat) (T:Array ag):Prop where
 size:T.size=42
 t4:T.getD 4 ac=.pointer (some ⟨cb,0,none⟩)
 t5:T.getD 5 ac=.pointer (some ⟨fb,0,none⟩)
 t6:T.getD 6 ac=.pointer (some ⟨tb,0,none⟩)
 t10:T.getD 10 ac=.pointer (some ⟨C,0,none⟩)
 t11:T.getD 11 ac=.pointer (some ⟨Wg,0,none⟩)
 t12:T.getD 12 ac=.pointer (some ⟨kb,0,none⟩)
section
variable {kb cb fb tb C Wg:Nat} {T:Array ag} {F:Blocks} {w:ae} {k:List Item} {cs:List al}
def clW (Wg cb kb fb tb C:Nat):ag:=.func (.func fW) #[] #[.pointer (some ⟨Wg,0,none⟩),.pointer (some ⟨cb,0,none⟩),.pointer (some ⟨kb,0,none⟩),.pointer (some ⟨fb,0,none⟩),.pointer (some ⟨tb,0,none⟩),.pointer (some ⟨C,0,none⟩)]
def T9 (Wg cb kb fb tb C:Nat) (T:Array ag):Array ag:=(T.setIfInBounds 21 (.tuple #[])).setIfInBounds 22 (clW Wg cb kb fb tb C)
def PL (Wg cb kb fb tb C:Nat) (T:Array ag) (k:List Item) (cs:List al) (g:am) (_:ae):Prop:=g=G (bS.at ⟨T9 Wg cb kb fb tb C T,[]⟩ (.inRegion R9 [1]::k)) cs
theorem qy3 (hT:ScT kb cb fb tb C Wg T) (w:ae):Goes prog true (RM link.tWg Wg F) DC0 (PL Wg cb kb fb tb C T k cs) 3
  (G (bS.at ((ah T []).put ((R8[0]?).bind (·.dst)) (.tuple #[])) (.inRegion R8 []::.code (.region 9 R9 false)::k)) cs) w:=by
 refine Goes.step rfl λw1 _=>?_;rw[aq];simp only[bK];refine⟨⟨rfl,rfl⟩,?_⟩;refine Goes.step rfl λw2 _=>?_;rw[az];simp only[bK];refine⟨⟨rfl,rfl⟩,?_⟩;show Goes _ _ _ _ _ 1 (G (bS.at ⟨T.setIfInBounds 21 (.tuple #[]),[]⟩ (.inRegion R9 [0,1]::k)) cs) w2;refine Goes.step rfl λw3 _=>?_;obtain⟨o,ho,eU,hd,hg⟩:∃o,R9[0]?=some o/\o.op=.makeFunc (.func fW) #[] #[.tmp 11,.tmp 4,.tmp 12,.tmp 5,.tmp 6,.tmp 10]/\o.dst=some 22/\o.guard=none:=⟨_,rfl,rfl,rfl,rfl⟩
 have eY:aa o (ax R9 (ah (T.setIfInBounds 21 (.tuple #[])) []).tmps)=true:=by unfold aa;rw[hg]
 have ev:(ai (ah (T.setIfInBounds 21 (.tuple #[])) []).eval o).run prog w3=.ok (.value (clW Wg cb kb fb tb C)) w3/\(ai (ah (T.setIfInBounds 21 (.tuple #[])) []).eval o).events prog w3 #[]=#[]:=by
  have b4:(ah (T.setIfInBounds 21 (.tuple #[])) []).eval (.tmp 4)=_:=(qz (by omega)).trans hT.t4;have b5:(ah (T.setIfInBounds 21 (.tuple #[])) []).eval (.tmp 5)=_:=(qz (by omega)).trans hT.t5;have b6:(ah (T.setIfInBounds 21 (.tuple #[])) []).eval (.tmp 6)=_:=(qz (by omega)).trans hT.t6;have Js:(ah (T.setIfInBounds 21 (.tuple #[])) []).eval (.tmp 10)=_:=(qz (by omega)).trans hT.t10;have zZ:(ah (T.setIfInBounds 21 (.tuple #[])) []).eval (.tmp 11)=_:=(qz (by omega)).trans hT.t11;have Gt:(ah (T.setIfInBounds 21 (.tuple #[])) []).eval (.tmp 12)=_:=(qz (by omega)).trans hT.t12;generalize (ah (T.setIfInBounds 21 (.tuple #[])) []).eval=e at*;unfold ai;constructor
  ·simp[go_sem,eU,b4,b5,b6,Js,zZ,Gt,clW]
  ·simp[go_sem,eU,b4,b5,b6,Js,zZ,Gt]
 rw[aG ho eY (by decide) ev.1];simp only[bK];refine⟨⟨rfl,?_⟩,?_⟩
 ·unfold listed;rw[ev.2,bH]
 ·rw[hd];exact λ_ _=>rfl
theorem atGo {Next:am->ae->Prop} (hT:ScT kb cb fb tb C Wg T) (hg:PL Wg cb kb fb tb C T k cs g w)
  (hs:PayAt C 4 w->Script prog link.tWg Wg C 4 jd i F (born prog (Am Wg cb kb fb tb C)) w) (hn:Next (G (bS.at ⟨T9 Wg cb kb fb tb C T,[]⟩ (.inRegion R9 []::k)) cs) w):
  AtGoM prog link.tWg Wg C 4 jd i F Next g w:=by
 obtain rfl:=hg;obtain⟨o,ho,eU,hd,QB⟩:∃o,R9[1]?=some o/\o.op=.go {callee:=.value (.tmp 22),args:=#[],argTypes:=#[]}/\o.dst=none/\o.guard=none:=⟨_,rfl,rfl,rfl,rfl⟩
 have eY:aa o (ax R9 (ah (T9 Wg cb kb fb tb C T) []).tmps)=true:=by unfold aa;rw[QB]
 have ev:(ai (ah (T9 Wg cb kb fb tb C T) []).eval o).run prog w=.ok (.spawn (Am Wg cb kb fb tb C)) w/\(ai (ah (T9 Wg cb kb fb tb C T) []).eval o).events prog w #[]=#[]:=by
  have Z7:(ah (T9 Wg cb kb fb tb C T) []).eval (.tmp 22)=clW Wg cb kb fb tb C:=vw (by simp[hT.size]);generalize (ah (T9 Wg cb kb fb tb C T) []).eval=e at*;unfold ai;constructor
  ·simp[go_sem,eU,Z7,clW,Am,resolve,Deferred.ofValue]
  ·simp[go_sem,eU,Z7,clW,resolve,Deferred.ofValue]
 have Ct:=stepG_spawn (P:=prog) (main:=true) (b:=bS) (k:=k) (cs:=cs) (rest:=[]) ho eY (by decide) ev.1 (f:=.func fW) (c:=#[.pointer (some ⟨Wg,0,none⟩),.pointer (some ⟨cb,0,none⟩),.pointer (some ⟨kb,0,none⟩),.pointer (some ⟨fb,0,none⟩),.pointer (some ⟨tb,0,none⟩),.pointer (some ⟨C,0,none⟩)]) rfl;rw[hd]at Ct;have hl:listed prog bS.fn (ah (T9 Wg cb kb fb tb C T) []) o w=#[]:=by unfold listed;rw[ev.2,bH]
 rw[hl]at Ct;exact⟨rfl,_,_,Ct,rfl,hs,hn⟩
theorem sAdd {Next:am->ae->Prop} (hT:ScT kb cb fb tb C Wg T) (hW:¬F Wg) (hl:WgLive link.tWg Wg w)
  (hs:∀w1,Ext F w w1->PayAt C 4 w1->Script prog link.tWg Wg C 4 jd i F (born prog (Am Wg cb kb fb tb C)) w1) (hn:∀w1,Ext F w w1->Next (G (bS.at ⟨T9 Wg cb kb fb tb C T,[]⟩ (.inRegion R9 []::k)) cs) w1):
  MG prog link.tWg Wg F (jQ prog .disable (MG prog link.tWg Wg F (xE prog link.tWg Wg F (MG prog link.tWg Wg F (AtGoM prog link.tWg Wg C 4 jd i F Next)))))
   (G (ao prog 53 #[.pointer (some ⟨Wg,0,none⟩),.int .i64 1] .normal) (bS.at ⟨T,[]⟩ (.inRegion R8 [0]::.code (.region 9 R9 false)::k)::cs)) w:=by
 have h1:=add1 (F:=F) J2 (K:=PL Wg cb kb fb tb C T k cs) (b₀:=bS) (a₀:=⟨T,[]⟩) (ops₀:=R8) (i₀:=0) (rest₀:=[]) (k₀:=.code (.region 9 R9 false)::k) (cs:=cs) (λw _=>qy3 hT w) w hl;have h2:=q1u hW h1 (Ext.refl F w);rw[enter_at _ func53 (show Tryz.f53.body=some (body_add link)from rfl)]
 walk_nrmf Tryz.f53
 exact q1v (λg w ⟨h,e⟩=>atGo hT h (hs w e) (hn w e)) h2
end
structure ScH (mo:ag) (cb fb tb C Wg i:Nat) (T:Array ag):Prop where
 size:T.size=42
 t4:T.getD 4 ac=.pointer (some ⟨cb,0,none⟩)
 t5:T.getD 5 ac=.pointer (some ⟨fb,0,none⟩)
 t6:T.getD 6 ac=.pointer (some ⟨tb,0,none⟩)
 t10:T.getD 10 ac=.pointer (some ⟨C,0,none⟩)
 t11:T.getD 11 ac=.pointer (some ⟨Wg,0,none⟩)
 t18:T.getD 18 ac=.int .i64 i
 t3:T.getD 3 ac=mo
theorem jix:(prog.funcs[bS.fn]?).any (·.norace)=false:=by kernel_rfl
section
variable {mo:ag} {cb fb tb C Wg i:Nat} {T:Array ag} {F O:Blocks} {w:ae} {k:List Item} {cs:List al} {Stop:Blocks->Blocks->am->ae->Prop}
theorem YH (hT:ScH mo cb fb tb C Wg i T) (hF:FOk F O w) {b:Bool} (hb:decide ((i:Int)<4)=b)
  (n:WG prog true Stop F O (G (bS.at ⟨T.setIfInBounds 19 (.bool b),[]⟩ (.code (if b then .skip else .exit 0)::.code (.seq (.block 1 sIn) (.region 10 R10 false))::k)) cs) w):
  WG prog true Stop F O (G (bS.at ⟨T,[]⟩ (.code sL::k)) cs) w:=by
 rw[jjo];refine WG.ctl rfl hF (λw1=>aC) ?_;refine WG.ctl rfl hF (λw1=>az) ?_;change WG _ _ _ _ _ (G (bS.at ⟨T,[]⟩ (.inRegion R6 [0]::_)) cs) w;obtain⟨o,ho,eU,hd,hg⟩:∃o,R6[0]?=some o/\o.op=.binOp .lss 3 (.tmp 18) (.const (.int .i64 4)) 3/\o.dst=some 19/\o.guard=none:=⟨_,rfl,rfl,rfl,rfl⟩
 have eY:aa o (ax R6 (ah T []).tmps)=true:=by unfold aa;rw[hg]
 refine WG.value (.bool b) hF ho eY (by decide) (λw1 _=>?_) ?_
 ·have CP:(ah T []).eval (.tmp 18)=.int .i64 i:=hT.t18;have bc:(ah T []).eval (.const (.int .i64 4))=.int .i64 4:=rfl;generalize (ah T []).eval=e at*;unfold ai;constructor
  ·simp[go_sem,eU,CP,bc,hb]
  ·simp[go_sem,eU,CP,bc]
 rw[hd];change WG _ _ _ _ _ (G (bS.at ⟨T.setIfInBounds 19 (.bool b),[]⟩ (.inRegion R6 []::_)) cs) w;refine WG.ctl rfl hF (λw1=>aq) ?_;refine WG.ctl rfl hF (λw1=>aC) ?_;have hc:(ah (T.setIfInBounds 19 (.bool b)) []).eval (.tmp 19)=.bool b:=vw (by rw[hT.size];omega);exact WG.ctl rfl hF (λw1=>stepG_cond hc) n
def grown (w:ae):ae:={w with heap:=w.heap.push (.cells #[.int .i64 0] 3)}
theorem Xu (eU:o.op=.alloc 3) (w:ae):(ai e o).run prog w=.ok (.value (.pointer (some ⟨w.heap.size,0,none⟩))) (grown w)/\(ai e o).events prog w #[]=#[]:=by
 unfold ai;constructor
 ·simp[go_sem,eU,grown,Instr.alloc]
 ·simp[go_sem,eU,Instr.alloc]
theorem jd2 {x y:cM} {n:Int} {u:ag} (eU:o.op=.store 3 x y) (hx:e x=.pointer (some ad)) (hy:e y=.int .i64 n) {w:ae} (hc:w.cell? ad=some u) (hz:w.frozen? ad=false):
  (ai e o).run prog w=.ok .skip (w.setCell ad (.int .i64 n))/\(ai e o).events prog w #[]=#[⟨.cell ad,true,false⟩]:=by
 unfold ai;simp only[eU,hx,hy];constructor
 ·simp[go_sem,stored,hc,hz]
 ·simp[go_sem,storedEv,hc,hz]
theorem OO {w:ae}:(grown w).heap.size=w.heap.size+1:=by
 show(w.heap.push _).size=_;rw[Array.size_push]
theorem Vg (hF:FOk F O w):oO F O w (λb=>F b\/b=w.heap.size) (λb=>O b\/b=w.heap.size) (grown w) #[]:=
 ⟨λ_ h=>.inl h,λ_ h=>.inl h,λb h=>h.imp id (λe=>by rw[e];exact ji _),λb h=>h.imp id (λe=>by rw[e];exact ji _),λb h=>h.imp (hF.own b) id,λb hb _=>by
  show(w.heap.push _)[b]?=_;rw[ak,if_neg (Nat.ne_of_lt hb)],by rw[OO];omega,
  λb h=>by
   rw[OO];rcases h with h|h
   ·exact Nat.lt_succ_of_lt (hF.low b h)
   ·omega,⟨0,rfl⟩,rfl,rfl,rfl,by simp,NB.push λ_ _ e=>by cases e⟩
theorem qvh:(grown w).cell? ⟨w.heap.size,0,none⟩=some (.int .i64 0)/\(grown w).frozen? ⟨w.heap.size,0,none⟩=false:=by
 have h:(grown w).heap[w.heap.size]?=some (.cells #[.int .i64 0] 3):=by
  show(w.heap.push _)[_]?=_;rw[ak,if_pos rfl]
 constructor
 ·simp[aH,h]
 ·simp[cC,h]
theorem Xt {w:ae} {v:ag} (hF:FOk F O w) (hk:O kb):oO F O w F O (w.setCell ⟨kb,0,none⟩ v) #[⟨.cell ⟨kb,0,none⟩,true,false⟩]:=by
 have hA:=aY w ⟨kb,0,none⟩ v;refine⟨λ_ h=>h,λ_ h=>h,λ_ h=>.inl h,λ_ h=>.inl h,hF.own,λb _ hb=>hA.block b λ(e:b=kb)=>hb (e▸hk),Nat.le_of_eq hA.size.symm,λb h=>by rw[hA.size];exact hF.low b h,⟨0,?_⟩,hA.tape,hA.os,hA.output,λe he=>?_,λ_=>trivial⟩
 ·unfold World.setCell;rfl
 ·rw[Array.mem_singleton]at he;subst he;exact⟨rfl,hF.own _ hk,λ_=>hk⟩
def T7 (i kb:Nat) (T:Array ag):Array ag:=((T.setIfInBounds 19 (.bool true)).setIfInBounds 20 (.int .i64 i)).setIfInBounds 12 (.pointer (some ⟨kb,0,none⟩))
theorem WK {F O F' O':Blocks} {w:ae} {es:Array dG} (h:oO F O w F' O' w' es):FOk F' O' w':=⟨h.low,h.own⟩
theorem jjp (hT:ScH mo cb fb tb C Wg i T) (hF:FOk F O w)
  (n:∀(kb:Nat) (w3:ae),Ext F w w3->w.heap.size<=kb->w3.cell? ⟨kb,0,none⟩=some (.int .i64 i)->FOk (λb=>F b\/b=kb) (λb=>O b\/b=kb) w3->WG prog true Stop (λb=>F b\/b=kb) (λb=>O b\/b=kb)
   (G (bS.at ⟨T7 i kb T,[]⟩ (.inRegion R8 [0]::.code (.region 9 R9 false)::k)) cs) w3):
  WG prog true Stop F O (G (bS.at ⟨T.setIfInBounds 19 (.bool true),[]⟩ (.code sIn::k)) cs) w:=by
 rw[jd1];refine WG.ctl rfl hF (λw1=>aC) ?_;refine WG.ctl rfl hF (λw1=>az) ?_;change WG _ _ _ _ _ (G (bS.at ⟨T.setIfInBounds 19 (.bool true),[]⟩ (.inRegion R7 [0,1,2]::_)) cs) w;obtain⟨o,ho,eU,hd,hg⟩:∃o,R7[0]?=some o/\o.op=.move (.tmp 18)/\o.dst=some 20/\o.guard=none:=⟨_,rfl,rfl,rfl,rfl⟩
 have eY:aa o (ax R7 (ah (T.setIfInBounds 19 (.bool true)) []).tmps)=true:=by unfold aa;rw[hg]
 refine WG.value (.int .i64 i) hF ho eY (by decide) (λw1 _=>?_) ?_
 ·have CP:(ah (T.setIfInBounds 19 (.bool true)) []).eval (.tmp 18)=.int .i64 i:=(qz (by omega)).trans hT.t18;generalize (ah (T.setIfInBounds 19 (.bool true)) []).eval=e at*;unfold ai;constructor
  ·simp[go_sem,eU,CP]
  ·simp[go_sem,eU,CP]
 rw[hd];change WG _ _ _ _ _ (G (bS.at ⟨(T.setIfInBounds 19 (.bool true)).setIfInBounds 20 (.int .i64 i),[]⟩ (.inRegion R7 [1,2]::_)) cs) w;obtain⟨o1,xP,jS,hd1,kV⟩:∃o,R7[1]?=some o/\o.op=.alloc 3/\o.dst=some 12/\o.guard=none:=⟨_,rfl,rfl,rfl,rfl⟩
 have DI:aa o1 (ax R7 (ah ((T.setIfInBounds 19 (.bool true)).setIfInBounds 20 (.int .i64 i)) []).tmps)=true:=by unfold aa;rw[kV]
 refine WG.step rfl λw1 e1=>?_;have zW:=hF.ext e1;have hs:=aG (P:=prog) (main:=true) (b:=bS) (k:=.code (.seq (.region 8 R8 false) (.region 9 R9 false))::k) (cs:=cs) (rest:=[2]) xP DI (by decide) (Xu jS w1).1;have hl:listed prog bS.fn (ah ((T.setIfInBounds 19 (.bool true)).setIfInBounds 20 (.int .i64 i)) []) o1 w1=#[]:=by unfold listed;rw[(Xu jS w1).2,bH]
 rw[hl,hd1]at hs;refine⟨_,_,_,_,_,hs,Vg zW,?_⟩;have ZH:=WK (Vg zW);change WG _ _ _ _ _ (G (bS.at ⟨T7 i w1.heap.size T,[]⟩ (.inRegion R7 [2]::_)) cs) (grown w1);obtain⟨o2,wQ,BD,QG,gL⟩:∃o,R7[2]?=some o/\o.op=.store 3 (.tmp 12) (.tmp 20)/\o.dst=none/\o.guard=none:=⟨_,rfl,rfl,rfl,rfl⟩
 have Nn:aa o2 (ax R7 (ah (T7 i w1.heap.size T) []).tmps)=true:=by unfold aa;rw[gL]
 have Gt:(ah (T7 i w1.heap.size T) []).eval (.tmp 12)=.pointer (some ⟨w1.heap.size,0,none⟩):=vw (by simp[hT.size]);have b20:(ah (T7 i w1.heap.size T) []).eval (.tmp 20)=.int .i64 i:=(qz (by omega)).trans (vw (by simp[hT.size]));refine WG.step rfl λw2 e2=>?_;have iD:w2.cell? ⟨w1.heap.size,0,none⟩=some (.int .i64 0)/\w2.frozen? ⟨w1.heap.size,0,none⟩=false:=by
  have h:=e2.keep w1.heap.size (.inr rfl);obtain⟨g1,g2⟩:=qvh (w:=w1);unfold aH at g1⊢;unfold cC at g2⊢;rw[h];exact⟨g1,g2⟩
 have hst:=jd2 (e:=(ah (T7 i w1.heap.size T) []).eval) BD Gt b20 iD.1 iD.2;have Cu:=stepG_none (P:=prog) (main:=true) (b:=bS) (k:=.code (.seq (.region 8 R8 false) (.region 9 R9 false))::k) (cs:=cs) (rest:=[]) wQ Nn (by decide) hst.1;have lN:listed prog bS.fn (ah (T7 i w1.heap.size T) []) o2 w2=#[⟨.cell ⟨w1.heap.size,0,none⟩,true,false⟩]:=by
  unfold listed;rw[hst.2];exact seen_eq jix (by simp)
 rw[lN,QG]at Cu;refine⟨_,_,_,_,_,Cu,Xt (ZH.ext e2) (.inr rfl),?_⟩;have Ez:=WK (Xt (v:=.int .i64 i) (ZH.ext e2) (.inr rfl:(λb=>O b\/b=w1.heap.size) w1.heap.size));change WG _ _ _ _ _ (G (bS.at ⟨T7 i w1.heap.size T,[]⟩ (.inRegion R7 []::_)) cs) _;refine WG.ctl rfl Ez (λw1=>aq) ?_;refine WG.ctl rfl Ez (λw1=>aC) ?_;refine WG.ctl rfl Ez (λw1=>az) ?_;change WG _ _ _ _ _ (G (bS.at ⟨T7 i w1.heap.size T,[]⟩ (.inRegion R8 [0]::_)) cs) _;refine n w1.heap.size _ ?_ e1.size ?_ Ez
 ·refine e1.trans ⟨?_,λb hb=>?_⟩
  ·have:=e2.size;rw[(aY w2 ⟨w1.heap.size,0,none⟩ (.int .i64 i)).size];rw[OO]at this;omega
  ·have eH:=zW.low b hb;rw[(aY w2 ⟨w1.heap.size,0,none⟩ (.int .i64 i)).block b (λ(e:b=w1.heap.size)=>by omega),e2.keep b (.inl hb)];show(w1.heap.push _)[b]?=_;rw[ak,if_neg (Nat.ne_of_lt eH)]
 ·have h0:w2.heap[w1.heap.size]?=some (.cells #[.int .i64 0] 3 (0,0)):=by
   rw[e2.keep _ (.inr rfl)];show(w1.heap.push _)[_]?=_;rw[ak,if_pos rfl]
  have hb:(w2.setCell ⟨w1.heap.size,0,none⟩ (.int .i64 i)).heap[w1.heap.size]?=some (.cells (#[.int .i64 0].setIfInBounds 0 (.int .i64 i)) 3):=by
   rw[setCell_eq_setRow w2 w1.heap.size 0 #[.int .i64 0] _ (0,0) _ h0,setRow_heap w2 w1.heap.size _ _ _ _ h0]
  simp[aH,hb]
end
section
variable {mo:ag} {cb fb tb C Wg:Nat} {k:List Item} {cs:List al} {jd:Nat->Blocks->ag->ae->Prop} {K:am->ae->Prop}
theorem jjq {T:Array ag} (hi:i<4) (hT:ScH mo cb fb tb C Wg i T) (hF:FOk F O w)
  (n:∀T',ScH mo cb fb tb C Wg (i+1) T'->WG prog true Stop F O (G (bS.at ⟨T',[]⟩ (.code sL::.inLoop sL::k)) cs) w):
  WG prog true Stop F O (G (bS.at ⟨T9 Wg cb kb fb tb C (T7 i kb T),[]⟩ (.inRegion R9 []::.inBlock 1::.code (.region 10 R10 false)::.inLoop sL::k)) cs) w:=by
 refine WG.ctl rfl hF (λw1=>aq) ?_;refine WG.ctl rfl hF (λw1=>cE) ?_;refine WG.ctl rfl hF (λw1=>az) ?_;have fC:(T9 Wg cb kb fb tb C (T7 i kb T)).size=42:=by simp[T9,T7,hT.size]
 have g:∀j,j≠12->j≠19->j≠20->j≠21->j≠22->(T9 Wg cb kb fb tb C (T7 i kb T)).getD j ac=T.getD j ac:=λj a b c d e=>by
  unfold T9 T7;rw[qz (aU e),qz (aU d),qz (aU a),qz (aU c),qz (aU b)]
 have g4:=(g 4 (by decide) (by decide) (by decide) (by decide) (by decide)).trans hT.t4;have g5:=(g 5 (by decide) (by decide) (by decide) (by decide) (by decide)).trans hT.t5;have g6:=(g 6 (by decide) (by decide) (by decide) (by decide) (by decide)).trans hT.t6;have g10:=(g 10 (by decide) (by decide) (by decide) (by decide) (by decide)).trans hT.t10;have g11:=(g 11 (by decide) (by decide) (by decide) (by decide) (by decide)).trans hT.t11;have g3:=(g 3 (by decide) (by decide) (by decide) (by decide) (by decide)).trans hT.t3;have g18:=(g 18 (by decide) (by decide) (by decide) (by decide) (by decide)).trans hT.t18;generalize T9 Wg cb kb fb tb C (T7 i kb T)=U at*;change WG _ _ _ _ _ (G (bS.at ⟨U,[]⟩ (.inRegion R10 [0,1]::_)) cs) w;obtain⟨o,ho,eU,hd,hg⟩:∃o,R10[0]?=some o/\o.op=.binOp .add 3 (.tmp 18) (.const (.int .i64 1)) 3/\o.dst=some 23/\o.guard=none:=⟨_,rfl,rfl,rfl,rfl⟩
 have eY:aa o (ax R10 (ah U []).tmps)=true:=by unfold aa;rw[hg]
 refine WG.value (.int .i64 ((i+1:Nat):Int)) hF ho eY (by decide) (λw1 _=>?_) ?_
 ·have CP:(ah U []).eval (.tmp 18)=.int .i64 i:=g18;have bc:(ah U []).eval (.const (.int .i64 1))=.int .i64 1:=rfl;have pq:IntKind.i64.wrap ((i:Int)+1)=((i+1:Nat):Int):=by rw[IntKind.wrap_i64];omega
  generalize (ah U []).eval=e at*;unfold ai;constructor
  ·simp[go_sem,eU,CP,bc,pq]
  ·simp[go_sem,eU,CP,bc]
 rw[hd];change WG _ _ _ _ _ (G (bS.at ⟨U.setIfInBounds 23 (.int .i64 ((i+1:Nat):Int)),[]⟩ (.inRegion R10 [1]::_)) cs) w;obtain⟨o1,xP,jS,hd1,kV⟩:∃o,R10[1]?=some o/\o.op=.move (.tmp 23)/\o.dst=some 18/\o.guard=none:=⟨_,rfl,rfl,rfl,rfl⟩
 have DI:aa o1 (ax R10 (ah (U.setIfInBounds 23 (.int .i64 ((i+1:Nat):Int))) []).tmps)=true:=by unfold aa;rw[kV]
 refine WG.value (.int .i64 ((i+1:Nat):Int)) hF xP DI (by decide) (λw1 _=>?_) ?_
 ·have Z6:(ah (U.setIfInBounds 23 (.int .i64 ((i+1:Nat):Int))) []).eval (.tmp 23)=.int .i64 ((i+1:Nat):Int):=vw (by rw[fC];omega);generalize (ah (U.setIfInBounds 23 (.int .i64 ((i+1:Nat):Int))) []).eval=e at*;unfold ai;constructor
  ·simp[go_sem,jS,Z6]
  ·simp[go_sem,jS,Z6]
 rw[hd1];change WG _ _ _ _ _ (G (bS.at ⟨(U.setIfInBounds 23 (.int .i64 ((i+1:Nat):Int))).setIfInBounds 18 (.int .i64 ((i+1:Nat):Int)),[]⟩ (.inRegion R10 []::_)) cs) w;refine WG.ctl rfl hF (λw1=>aq) ?_;refine WG.ctl rfl hF (λw1=>stepG_inLoop) ?_;refine n _ ⟨by simp[fC],?_,?_,?_,?_,?_,?_,?_⟩
 ·rw[qz (by decide),qz (by decide)];exact g4
 ·rw[qz (by decide),qz (by decide)];exact g5
 ·rw[qz (by decide),qz (by decide)];exact g6
 ·rw[qz (by decide),qz (by decide)];exact g10
 ·rw[qz (by decide),qz (by decide)];exact g11
 ·exact vw (by simp[fC])
 ·rw[qz (by decide),qz (by decide)];exact g3
theorem GV {T:Array ag} (a:j≠12) (b:j≠19) (c:j≠20):(T7 i kb T).getD j ac=T.getD j ac:=by
 unfold T7;rw[qz (aU a),qz (aU c),qz (aU b)]
theorem ScH.t7 {T:Array ag} (hT:ScH mo cb fb tb C Wg i T):ScT kb cb fb tb C Wg (T7 i kb T):=
 ⟨by simp[T7,hT.size],(GV (by decide) (by decide) (by decide)).trans hT.t4,(GV (by decide) (by decide) (by decide)).trans hT.t5,(GV (by decide) (by decide) (by decide)).trans hT.t6,(GV (by decide) (by decide) (by decide)).trans hT.t10,
  (GV (by decide) (by decide) (by decide)).trans hT.t11,by unfold T7;exact vw (by simp[hT.size])⟩
theorem starter {Fx:Blocks->ae->Prop} (hx:∀F w w1,Fx F w->Ext F w w1->Fx F w1) (hxm:∀F F' w,Fx F w->(∀b,F b->F' b)->Fx F' w)
  (hs:∀i:Nat,i<4->∀F w kb,Fx F w->FOk F (λ_=>False) w->F kb->w.cell? ⟨kb,0,none⟩=some (.int .i64 i)->Script prog link.tWg Wg C 4 jd i F (born prog (Am Wg cb kb fb tb C)) w)
  (h0:∀F O w T,ScH mo cb fb tb C Wg 4 T->FOk F O w->Fx F w->¬F Wg->WG prog true (Scr prog link.tWg Wg C 4 jd K 0) F O (G (bS.at ⟨T,[]⟩ (.code sL::.inLoop sL::k)) cs) w):
  ∀r i,i+r=4->∀T F O w,ScH mo cb fb tb C Wg i T->FOk F O w->Fx F w->¬F Wg->Wg<w.heap.size->WG prog true (Scr prog link.tWg Wg C 4 jd K r) F O (G (bS.at ⟨T,[]⟩ (.code sL::.inLoop sL::k)) cs) w:=by
 intro r;induction r with
 |zero=>
  intro i hi T F O w hT hF hX hW _;obtain rfl:i=4:=by omega
  exact h0 F O w T hT hF hX hW
 |succ r ih=>
  intro i hi T F O w hT hF hX hW eH;have qL:i<4:=by omega
  refine YH hT hF (b:=true) (xdt (by omega)) ?_;refine WG.ctl rfl hF (λw1=>dw) ?_;refine WG.ctl rfl hF (λw1=>aC) ?_;refine WG.ctl rfl hF (λw1=>bL) ?_;refine jjp hT hF λkb w3 e3 mH iD Ez=>?_;obtain⟨o,ho,eU,hd,hg⟩:∃o,R8[0]?=some o/\o.op=.call {callee:=.value (.func 53),args:=#[.tmp 11,.const (.int .i64 1)],argTypes:=#[122,3]}/\o.dst=some 21/\o.guard=none:=⟨_,rfl,rfl,rfl,rfl⟩
  have eY:aa o (ax R8 (ah (T7 i kb T) []).tmps)=true:=by unfold aa;rw[hg]
  have ev:∀w1,(ai (ah (T7 i kb T) []).eval o).run prog w1=.ok (.enter 53 #[.pointer (some ⟨Wg,0,none⟩),.int .i64 1]) w1/\(ai (ah (T7 i kb T) []).eval o).events prog w1 #[]=#[]:=λw1=>by
   have zZ:(ah (T7 i kb T) []).eval (.tmp 11)=.pointer (some ⟨Wg,0,none⟩):=(hT.t7 (kb:=kb)).t11;have bc:(ah (T7 i kb T) []).eval (.const (.int .i64 1))=.int .i64 1:=rfl;have bf:(ah (T7 i kb T) []).eval (.func 53)=.func (.func 53) #[] #[]:=rfl;generalize (ah (T7 i kb T) []).eval=e at*;unfold ai;constructor
   ·simp[go_sem,eU,zZ,bc,bf]
   ·simp[go_sem,eU,zZ,bc,bf];simp[dv,go_sem,func53,Tryz.f53]
  refine WG.quiet rfl Ez λw4 e4=>⟨_,0,_,cq ho eY (by decide) (ev w4).1,λe' he=>?_,?_⟩
  ·have:=bi he;rw[(ev w4).2]at this;simp at this
  refine WG.stop λw5 e5=>⟨rfl,λhl=>?_⟩
  have ZA:Fx (λb=>F b\/b=kb) w5:=hx _ _ _ (hx _ _ _ (hxm F _ _ (hx _ _ _ hX e3) (λb hb=>.inl hb)) e4) e5;have zV:¬(λb=>F b\/b=kb) Wg:=λh=>h.elim hW λe=>by omega
  have hF5:=(Ez.ext e4).ext e5;have hc5:w5.cell? ⟨kb,0,none⟩=some (.int .i64 i):=(xJ (a:=⟨kb,0,none⟩) ((e4.trans e5).keep kb (.inr rfl))).trans iD;have Sq:Wg<w5.heap.size:=xll (xll eH e3.size) (xlt e4.size e5.size);have QW:FOk (λb=>F b\/b=kb) (λ_=>False) w5:=⟨hF5.low,λ_ h=>h.elim⟩
  have e0:4-(r+1)=i:=by omega
  rw[e0];exact sAdd hT.t7 zV hl (λw6 e6 _=>hs i qL _ w6 kb (hx _ _ _ ZA e6) (QW.ext e6) (.inr rfl) ((xJ (a:=⟨kb,0,none⟩) (e6.keep kb (.inr rfl))).trans hc5))
   (λw6 e6=>jjq qL hT (QW.ext e6) λT' wU=>ih (i+1) (by omega) T' _ _ w6 wU (QW.ext e6) (hx _ _ _ ZA e6) zV (xll Sq e6.size))
end
section
variable {P:aF} {ty:cU} {Wg:Nat} {F:Blocks} {A K K':am->ae->Prop}
theorem Dw.mono (hk:∀g w,K g w->K' g w) (h:Dw P ty Wg F K g w):Dw P ty Wg F K' g w:=
 MG.mono h λ_ _ h1=>h1.keep λ_ h2=>MG.mono h2 λ_ _ h3=>h3.keep λ_ h4=>hk _ _ h4
theorem Dx.mono (hk:∀g w,K g w->K' g w) (h:Dx P ty Wg F K g w):Dx P ty Wg F K' g w:=
 ⟨h.1,λhw=>let⟨g',a,b⟩:=h.2 hw;⟨g',a,Dw.mono hk b⟩⟩
theorem yZ.mono (hk:∀g w,K g w->K' g w) (h:yZ P ty Wg F K g w):yZ P ty Wg F K' g w:=
 ⟨h.1,h.2.1,h.2.2.1,λhw=>let⟨g',a,b⟩:=h.2.2.2 hw;⟨g',a,MG.mono b λ_ _ h=>Dx.mono hk h⟩⟩
theorem Dy.mono (hk:∀g w,K g w->K' g w) {vs:Nat} (h:Dy P ty Wg F A K vs g w):Dy P ty Wg F A K' vs g w:=
 ⟨h.1,λv hv hw=>⟨λe=>let⟨g',a,b⟩:=(h.2 v hv hw).1 e;⟨g',a,MG.mono b λ_ _ h=>h.keep λ_ h=>MG.mono h λ_ _ h=>yZ.mono hk h⟩,(h.2 v hv hw).2⟩⟩
theorem rU.mono (hk:∀g w,K g w->K' g w) (h:rU P ty Wg F A K g w):rU P ty Wg F A K' g w:=
 ⟨h.1,λv hv hw=>let⟨g',a,b,c⟩:=h.2 v hv hw;⟨g',a,λe=>Dw.mono hk (b e),λe=>MG.mono (c e) λ_ _ h=>Dy.mono hk h⟩⟩
end
noncomputable def sT:Code:=match sR with|.seq _ c=>c|_=>.skip
noncomputable def R11:Array Oper:=match sR with|.seq a _=>rg a|_=>#[]
theorem jjr:sR=.seq (.region 11 R11 false) sT:=rfl
section
variable {mo:ag} {cb fb tb C Wg:Nat} {k:List Item} {cs:List al} {jd:Nat->Blocks->ag->ae->Prop}
def Behind (mo:ag) (cb fb tb C Wg:Nat) (k:List Item) (cs:List al) (T0:Array ag) (g:am) (_:ae):Prop:=g=G (bS.at ⟨T0.setIfInBounds 24 (.tuple #[]),[]⟩ (.code sT::k)) cs/\ScH mo cb fb tb C Wg 4 T0
def KS (mo:ag) (cb fb tb C Wg:Nat) (k:List Item) (cs:List al) (g:am) (w:ae):Prop:= ∃F T,MG prog link.tWg Wg F (Behind mo cb fb tb C Wg k cs T) g w
theorem jju {T0:Array ag} (Bq:ScH mo cb fb tb C Wg 4 T0) (hF:FOk F O w):
  WG prog true (Scr prog link.tWg Wg C 4 jd (KS mo cb fb tb C Wg k cs) 0) F O (G (bS.at ⟨T0,[]⟩ (.code sL::.inLoop sL::.inBlock 0::.code sR::k)) cs) w:=by
 refine YH Bq hF (b:=false) (xdf (by decide)) ?_;refine WG.ctl rfl hF (λw1=>stepG_exit rfl) ?_;rw[jjr];refine WG.ctl rfl hF (λw1=>aC) ?_;refine WG.ctl rfl hF (λw1=>az) ?_;have hT:ScH mo cb fb tb C Wg 4 (T0.setIfInBounds 19 (.bool false)):=⟨by simp[Bq.size],(qz (by decide)).trans Bq.t4,(qz (by decide)).trans Bq.t5,(qz (by decide)).trans Bq.t6,(qz (by decide)).trans Bq.t10,(qz (by decide)).trans Bq.t11,(qz (by decide)).trans Bq.t18,(qz (by decide)).trans Bq.t3⟩
 change WG _ _ _ _ _ (G (bS.at ⟨T0.setIfInBounds 19 (.bool false),[]⟩ (.inRegion R11 [0]::_)) cs) w;generalize T0.setIfInBounds 19 (.bool false)=T at*;obtain⟨o,ho,eU,hd,hg⟩:∃o,R11[0]?=some o/\o.op=.call {callee:=.value (.func 57),args:=#[.tmp 11],argTypes:=#[122]}/\o.dst=some 24/\o.guard=none:=⟨_,rfl,rfl,rfl,rfl⟩
 have eY:aa o (ax R11 (ah T []).tmps)=true:=by unfold aa;rw[hg]
 have ev:∀w1,(ai (ah T []).eval o).run prog w1=.ok (.enter 57 #[.pointer (some ⟨Wg,0,none⟩)]) w1/\(ai (ah T []).eval o).events prog w1 #[]=#[]:=λw1=>by
  have zZ:(ah T []).eval (.tmp 11)=.pointer (some ⟨Wg,0,none⟩):=hT.t11;have bf:(ah T []).eval (.func 57)=.func (.func 57) #[] #[]:=rfl;generalize (ah T []).eval=e at*;unfold ai;constructor
  ·simp[go_sem,eU,zZ,bf]
  ·simp[go_sem,eU,zZ,bf];simp[dv,go_sem,func57,Tryz.f57]
 refine WG.quiet rfl hF λw4 e4=>⟨_,0,_,cq ho eY (by decide) (ev w4).1,λe' he=>?_,?_⟩
 ·have:=bi he;rw[(ev w4).2]at this;simp at this
 refine WG.stop λw5 e5=>⟨rfl,λhl=>?_⟩
 refine⟨Anch link Wg (bS.at ⟨T,[]⟩ (.inRegion R11 [0]::.code sT::k)) cs,λg w h=>by obtain⟨T,rfl,_⟩:=h;rfl,λg w h=>?_,?_⟩
 ·have h1:=waitRound (F:=F) J2 (K:=Behind mo cb fb tb C Wg k cs T) (mT:=1) (b₀:=bS) (a₀:=⟨T,[]⟩) (ops₀:=R11) (i₀:=0) (rest₀:=[]) (k₀:=.code sT::k) (cs:=cs) (λw _=>by
   refine Goes.step rfl λw1 _=>?_;rw[aq];simp only[bK]
   exact⟨⟨rfl,rfl⟩,λ_ _=>⟨rfl,hT⟩⟩) g w h
  exact MG.mono h1 λg w h=>rU.mono (λg w h=>⟨F,T,h⟩) h
 ·have h2:=waitStart (F:=F) (cs:=cs) J2 (c:=bS.at ⟨T,[]⟩ (.inRegion R11 [0]::.code sT::k)) w5 hl;rw[enter_at _ func57 (show Tryz.f57.body=some (body_wait link)from rfl)]
  walk_nrmf Tryz.f57
  exact h2
end
theorem qui {mo:ag} {fb C Wg o L0:Nat} {a:am} {w0:ae} {D:Nat->WX} {FM:Blocks}
  (hJ:Joined prog o Wg C 4 SB jd (KS mo cb fb tb C Wg k cs) L0 w0 gs a w t D FM q):
  ∃(N:Nat) (fE:Array am) (T:Array ag) (d:Nat) (sl':Option (Nat×Nat)) (t':bD) (q':Nat->Nat),runNT prog N (crowd gs w sl) t=(.next (crowd fE (w.at d) sl'),t')/\fE.size=gs.size/\
   fE[0]?=some (G (bS.at ⟨T.setIfInBounds 24 (.tuple #[]),[]⟩ (.code sT::k)) cs)/\ScH mo cb fb tb C Wg 4 T/\bE prog t' fE q'/\xw (λb=>SB b\/b=Wg) (w.at d) fE.size t':=by
 obtain⟨F,T,m,hg⟩:=hJ.k;obtain⟨N,fE,a',d,sl',t',q',h1,h2,h3,⟨h4,h5⟩,h6,h7⟩:=quk (P:=prog) (SB:=λb=>SB b\/b=Wg) (R:=RM link.tWg Wg F) (Stop:=Behind mo cb fb tb C Wg k cs T) (λw d=>⟨⟨ji _,λ_ _=>rfl⟩,id⟩) (λg w h=>by rw[h.1];rfl) m gs a w sl t q hJ.main hJ.leavers hJ.past hg;subst h4;exact⟨N,fE,T,d,sl',t',q',h1,h2,h3,h5,h6,h7⟩
end
section
open Go Go.Conc Go.ConcN Sim
section
variable {X:Cx} {Fb:aA->Bool} {sp:aA->Bool}
theorem NN (rE:X.P'=X.P) (S:X.Set Fb true sp) {v:ag} (fH:kE X.P X.P' Fb true o=true) (he:EvR X.F Fb ρ e e) (hw:WR X ρ w w) (hr:(ai e o).run X.P w=.ok (.value v) w1):
  ∃ρ1,ρ.le ρ1/\WR X ρ1 w1 w1/\VR X.F ρ1 v v/\oO (rng ρ) (own X ρ) w (rng ρ1) (own X ρ1) w1 ((ai e o).events X.P w #[])/\(NB w->NB w1):=by
 have hs:=SS.execOp S.ok true S.wrs o fH e e he;obtain⟨ρ1,a',gy,gD,h1,h2,h3,h4,h5,h6,h7⟩:=hs.1 w w _ w1 #[] hw hr;rw[rE]at h1;have e1:=congrArg Prod.fst h1;rw[bm,hr]at e1;have e1:(Result.ok (Next.value v) w1:Result Next)=.ok a' gy:=e1;injection e1 with ea ew;subst ea;subst ew;have ee:(ai e o).events X.P w #[]=gD:=by
  have:=congrArg Prod.snd h1;simpa[dW]using this
 cases h6 with
 |value hv=>exact⟨ρ1,h3.le,h2,hv,by rw[ee];exact F5 hw h3 h2 h5,λ_=>trivial⟩
end
end
section
open Go.Conc Go.ConcN Go.RowKit Go.Conc.Lib Go.ConcR.Gen Go.ConcN.Gen Go Sim
open Go.ConcR (KK wgBlock WgAt stA smA rd wr mk Payload Aside2 DC0 ofEvent_cell)
def zC (w:ae):ae:={w with heap:=w.heap.push (wgBlock link.tWg 0 0)}
theorem Ub (eU:o.op=.alloc 122) (w:ae):(ai e o).run prog w=.ok (.value (.pointer (some ⟨w.heap.size,0,none⟩))) (zC w)/\(ai e o).events prog w #[]=#[]:=by
 unfold ai;constructor
 ·simp[go_sem,eU,zC,Instr.alloc,wgBlock]
 ·simp[go_sem,eU,Instr.alloc]
theorem qze:WgAt link.tWg w.heap.size (zC w) 0 0:=by
 show(w.heap.push _)[_]?=_;rw[ak,if_pos rfl]
noncomputable def R4:Array Oper:=match uG with|.seq _ (.seq _ (.seq _ (.seq a _)))=>rg a|_=>#[]
theorem qvg {a:Act} (h0:gs[0]?=some (G (bS.at a (.inRegion R4 [0]::k)) cs)) (hL:bE prog t gs q) (hP:xw SB w gs.size t):
  ∃(fE:Array am) (d:Nat) (sl':Option (Nat×Nat)) (t':bD) (q':Nat->Nat),Runs prog gs w sl t fE (zC (w.at d)) sl' t'/\fE.size=gs.size/\fE[0]?=some (G (bS.at (a.put (some 11) (.pointer (some ⟨w.heap.size,0,none⟩))) (.inRegion R4 []::k)) cs)/\
   bE prog t' fE q'/\xw SB (zC (w.at d)) fE.size t'/\WgAt link.tWg w.heap.size (zC (w.at d)) 0 0/\∀x:Addr,x.block=w.heap.size->qR t' (.cell x):=by
 obtain⟨o,ho,eU,hd,hg⟩:∃o,R4[0]?=some o/\o.op=.alloc 122/\o.dst=some 11/\o.guard=none:=⟨_,rfl,rfl,rfl,rfl⟩
 have eY:aa o (ax R4 a.tmps)=true:=by unfold aa;rw[hg]
 have hs:∀d,aP prog true (G (bS.at a (.inRegion R4 [0]::k)) cs) (w.at d)=.go (G (bS.at (a.put (some 11) (.pointer (some ⟨w.heap.size,0,none⟩))) (.inRegion R4 []::k)) cs) (zC (w.at d)) #[]:=λd=>by
  have hl:listed prog bS.fn a o (w.at d)=#[]:=by unfold listed;rw[(Ub eU _).2,bH]
  have:=aG (P:=prog) (main:=true) (b:=bS) (k:=k) (cs:=cs) (rest:=[]) ho eY (by decide) (Ub (e:=a.eval) eU (w.at d)).1;rw[hl,hd]at this;exact this
 have fC:∀d,(zC (w.at d)).heap.size=w.heap.size+1:=λd=>by
  show(w.heap.push _).size=_;rw[Array.size_push]
 obtain⟨N,fE,a',d,w',es,sl',t',q',h1,h2,h3,h4,h5,h6,h7⟩:=zG (P:=prog) (SB:=SB) (sl:=sl) h0 rfl hL hP λd=>⟨_,_,_,hs d,by rw[fC];exact Nat.le_succ _,by simp⟩
 rw[hs d]at h2;injection h2 with e1 e2 e3;subst e1;subst e2;subst e3;refine⟨fE,d,sl',t',q',⟨N,h1⟩,h3,h4,h5,h6,qze (w:=w.at d),λx hx=>h7 _ (WQ (B:=w.heap.size) (λop eU=>hP.seen op eU) (by omega)) (by simp)⟩
end
section
open Go Go.Conc Go.ConcN Sim
section
variable {P:aF} {b:al} {a:Act} {k:List Item} {cs fJ:List al} {ops:Array Oper} {i:Nat} {rest:List Nat} {o:Oper} {fr zh fw:al}
theorem Sil.ctl (h:∀w,aP P true (G fr cs) w=.go (G zh cs) w #[]) (n:Sil P zh cs fw fJ):Sil P fr cs fw fJ:=.step h n
theorem Sil.value (v:ag) (ho:ops[i]?=some o) (hw:aa o (ax ops a.tmps)=true) (hk:b.kind≠.early)
  (hr:∀w,(ai a.eval o).run P w=.ok (.value v) w/\(ai a.eval o).events P w #[]=#[])
  (n:Sil P (b.at (a.put o.dst v) (.inRegion ops rest::k)) cs fw fJ):Sil P (b.at a (.inRegion ops (i::rest)::k)) cs fw fJ:=
 .step (λw=>by
  rw[aG ho hw hk (hr w).1];unfold listed
  rw[(hr w).2,bH]) n
end
noncomputable def R12:Array Oper:=match sT with|.seq a _=>rg a|_=>#[]
noncomputable def sT2:Code:=match sT with|.seq _ c=>c|_=>.skip
noncomputable def R13:Array Oper:=match sT2 with|.seq (.seq a _) _=>rg a|_=>#[]
noncomputable def tL:Code:=match sT2 with|.seq (.seq _ (.block _ (.loop c))) _=>c|_=>.skip
noncomputable def tE:Code:=match sT2 with|.seq _ c=>c|_=>.skip
theorem jjt:sT=.seq (.region 12 R12 false) sT2:=rfl
theorem jd3:sT2=.seq (.seq (.region 13 R13 false) (.block 2 (.loop tL))) tE:=rfl
noncomputable def tIn:Code:=match tL with|.seq _ (.seq _ (.seq (.block _ c) _))=>c|_=>.skip
noncomputable def R14:Array Oper:=match tL with|.seq a _=>rg a|_=>#[]
noncomputable def R17:Array Oper:=match tL with|.seq _ (.seq _ (.seq _ a))=>rg a|_=>#[]
noncomputable def R15:Array Oper:=match tIn with|.seq a _=>rg a|_=>#[]
noncomputable def R16:Array Oper:=match tIn with|.seq _ a=>rg a|_=>#[]
noncomputable def R18:Array Oper:=match tE with|.seq a _=>rg a|_=>#[]
theorem jjy:tL=.seq (.region 14 R14 false) (.seq (.cond (.tmp 27) .skip (.exit 2)) (.seq (.block 3 tIn) (.region 17 R17 false))):=rfl
theorem jem:tIn=.seq (.region 15 R15 false) (.region 16 R16 false):=rfl
theorem jjx:tE=.seq (.region 18 R18 false) .ret:=rfl
section
variable {T:Array ag} {k:List Item} {cs:List al}
theorem jj3:Sil prog (bS.at ⟨T,[]⟩ (.code sT::k)) cs (bS.at ⟨T.setIfInBounds 13 (.slice none 0 0),[]⟩ (.inRegion R13 [0,1]::.code (.block 2 (.loop tL))::.code tE::k)) cs:=by
 rw[jjt];refine Sil.ctl (λw1=>aC) ?_;refine Sil.ctl (λw1=>az) ?_;change Sil _ (bS.at ⟨T,[]⟩ (.inRegion R12 [0]::_)) _ _ _;obtain⟨o,ho,eU,hd,hg⟩:∃o,R12[0]?=some o/\o.op=.assign (.const (.slice none 0 0))/\o.dst=some 13/\o.guard=none:=⟨_,rfl,rfl,rfl,rfl⟩
 have eY:aa o (ax R12 (ah T []).tmps)=true:=by unfold aa;rw[hg]
 refine Sil.value (.slice none 0 0) ho eY (by decide) (λw=>?_) ?_
 ·have bc:(ah T []).eval (.const (.slice none 0 0))=.slice none 0 0:=rfl;generalize (ah T []).eval=e at*;unfold ai;constructor
  ·simp[go_sem,eU,bc]
  ·simp[go_sem,eU,bc]
 rw[hd];change Sil _ (bS.at ⟨T.setIfInBounds 13 (.slice none 0 0),[]⟩ (.inRegion R12 []::_)) _ _ _;refine Sil.ctl (λw1=>aq) ?_;rw[jd3];refine Sil.ctl (λw1=>aC) ?_;refine Sil.ctl (λw1=>aC) ?_;refine Sil.ctl (λw1=>az) ?_;exact Sil.refl _ _
theorem YG (fC:T.size=42) (QZ:T.getD 26 ac=.int .i64 i) {b:Bool} (hb:decide ((i:Int)<4)=b):
  Sil prog (bS.at ⟨T,[]⟩ (.code tL::k)) cs (bS.at ⟨T.setIfInBounds 27 (.bool b),[]⟩ (.code (if b then .skip else .exit 2)::.code (.seq (.block 3 tIn) (.region 17 R17 false))::k)) cs:=by
 rw[jjy];refine Sil.ctl (λw1=>aC) ?_;refine Sil.ctl (λw1=>az) ?_;change Sil _ (bS.at ⟨T,[]⟩ (.inRegion R14 [0]::_)) _ _ _;obtain⟨o,ho,eU,hd,hg⟩:∃o,R14[0]?=some o/\o.op=.binOp .lss 3 (.tmp 26) (.const (.int .i64 4)) 3/\o.dst=some 27/\o.guard=none:=⟨_,rfl,rfl,rfl,rfl⟩
 have eY:aa o (ax R14 (ah T []).tmps)=true:=by unfold aa;rw[hg]
 refine Sil.value (.bool b) ho eY (by decide) (λw1=>?_) ?_
 ·have CO:(ah T []).eval (.tmp 26)=.int .i64 i:=QZ;have bc:(ah T []).eval (.const (.int .i64 4))=.int .i64 4:=rfl;generalize (ah T []).eval=e at*;unfold ai;constructor
  ·simp[go_sem,eU,CO,bc,hb]
  ·simp[go_sem,eU,CO,bc]
 rw[hd];change Sil _ (bS.at ⟨T.setIfInBounds 27 (.bool b),[]⟩ (.inRegion R14 []::_)) _ _ _;refine Sil.ctl (λw1=>aq) ?_;refine Sil.ctl (λw1=>aC) ?_;have hc:(ah (T.setIfInBounds 27 (.bool b)) []).eval (.tmp 27)=.bool b:=vw (by rw[fC];omega);exact Sil.ctl (λw1=>stepG_cond hc) (Sil.refl _ _)
theorem tEnd {v:ag} (fC:T.size=42) (jY:T.getD 13 ac=v):
  Sil prog (bS.at ⟨T,[]⟩ (.code tE::k)) cs {bS.at ⟨((T.setIfInBounds 41 v).setIfInBounds 8 v).setIfInBounds 9 (.int .i64 0),[]⟩ (.code .ret::k)with mode:=.returning} cs:=by
 rw[jjx];refine Sil.ctl (λw1=>aC) ?_;refine Sil.ctl (λw1=>az) ?_;change Sil _ (bS.at ⟨T,[]⟩ (.inRegion R18 [0,1,2]::_)) _ _ _;obtain⟨o,ho,eU,hd,hg⟩:∃o,R18[0]?=some o/\o.op=.move (.tmp 13)/\o.dst=some 41/\o.guard=none:=⟨_,rfl,rfl,rfl,rfl⟩
 have eY:aa o (ax R18 (ah T []).tmps)=true:=by unfold aa;rw[hg]
 refine Sil.value v ho eY (by decide) (λw1=>?_) ?_
 ·have zY:(ah T []).eval (.tmp 13)=v:=jY;generalize (ah T []).eval=e at*;unfold ai;constructor
  ·simp[go_sem,eU,zY]
  ·simp[go_sem,eU,zY]
 rw[hd];change Sil _ (bS.at ⟨T.setIfInBounds 41 v,[]⟩ (.inRegion R18 [1,2]::_)) _ _ _;obtain⟨o1,xP,jS,hd1,kV⟩:∃o,R18[1]?=some o/\o.op=.assign (.tmp 41)/\o.dst=some 8/\o.guard=none:=⟨_,rfl,rfl,rfl,rfl⟩
 have DI:aa o1 (ax R18 (ah (T.setIfInBounds 41 v) []).tmps)=true:=by unfold aa;rw[kV]
 refine Sil.value v xP DI (by decide) (λw1=>?_) ?_
 ·have ZO:(ah (T.setIfInBounds 41 v) []).eval (.tmp 41)=v:=vw (by rw[fC];omega);generalize (ah (T.setIfInBounds 41 v) []).eval=e at*;unfold ai;constructor
  ·simp[go_sem,jS,ZO]
  ·simp[go_sem,jS,ZO]
 rw[hd1];change Sil _ (bS.at ⟨(T.setIfInBounds 41 v).setIfInBounds 8 v,[]⟩ (.inRegion R18 [2]::_)) _ _ _;obtain⟨o2,wQ,BD,QG,gL⟩:∃o,R18[2]?=some o/\o.op=.assign (.const (.int .i64 0))/\o.dst=some 9/\o.guard=none:=⟨_,rfl,rfl,rfl,rfl⟩
 have Nn:aa o2 (ax R18 (ah ((T.setIfInBounds 41 v).setIfInBounds 8 v) []).tmps)=true:=by unfold aa;rw[gL]
 refine Sil.value (.int .i64 0) wQ Nn (by decide) (λw1=>?_) ?_
 ·have bc:(ah ((T.setIfInBounds 41 v).setIfInBounds 8 v) []).eval (.const (.int .i64 0))=.int .i64 0:=rfl;generalize (ah ((T.setIfInBounds 41 v).setIfInBounds 8 v) []).eval=e at*;unfold ai;constructor
  ·simp[go_sem,BD,bc]
  ·simp[go_sem,BD,bc]
 rw[QG];change Sil _ (bS.at ⟨((T.setIfInBounds 41 v).setIfInBounds 8 v).setIfInBounds 9 (.int .i64 0),[]⟩ (.inRegion R18 []::_)) _ _ _;refine Sil.ctl (λw1=>aq) ?_;exact Sil.ctl (λw1=>rfl) (Sil.refl _ _)
theorem jj1 (hi:i<4) (fC:T.size=42) (QZ:T.getD 26 ac=.int .i64 i):
  Sil prog (bS.at ⟨T,[]⟩ (.inRegion R16 []::.inBlock 3::.code (.region 17 R17 false)::.inLoop tL::k)) cs (bS.at ⟨(T.setIfInBounds 40 (.int .i64 ((i+1:Nat):Int))).setIfInBounds 26 (.int .i64 ((i+1:Nat):Int)),[]⟩ (.code tL::.inLoop tL::k)) cs:=by
 refine Sil.ctl (λw1=>aq) ?_;refine Sil.ctl (λw1=>cE) ?_;refine Sil.ctl (λw1=>az) ?_;change Sil _ (bS.at ⟨T,[]⟩ (.inRegion R17 [0,1]::_)) _ _ _;obtain⟨o,ho,eU,hd,hg⟩:∃o,R17[0]?=some o/\o.op=.binOp .add 3 (.tmp 26) (.const (.int .i64 1)) 3/\o.dst=some 40/\o.guard=none:=⟨_,rfl,rfl,rfl,rfl⟩
 have eY:aa o (ax R17 (ah T []).tmps)=true:=by unfold aa;rw[hg]
 refine Sil.value (.int .i64 ((i+1:Nat):Int)) ho eY (by decide) (λw1=>?_) ?_
 ·have CO:(ah T []).eval (.tmp 26)=.int .i64 i:=QZ;have bc:(ah T []).eval (.const (.int .i64 1))=.int .i64 1:=rfl;have pq:IntKind.i64.wrap ((i:Int)+1)=((i+1:Nat):Int):=by rw[IntKind.wrap_i64];omega
  generalize (ah T []).eval=e at*;unfold ai;constructor
  ·simp[go_sem,eU,CO,bc,pq]
  ·simp[go_sem,eU,CO,bc]
 rw[hd];change Sil _ (bS.at ⟨T.setIfInBounds 40 (.int .i64 ((i+1:Nat):Int)),[]⟩ (.inRegion R17 [1]::_)) _ _ _;obtain⟨o1,xP,jS,hd1,kV⟩:∃o,R17[1]?=some o/\o.op=.move (.tmp 40)/\o.dst=some 26/\o.guard=none:=⟨_,rfl,rfl,rfl,rfl⟩
 have DI:aa o1 (ax R17 (ah (T.setIfInBounds 40 (.int .i64 ((i+1:Nat):Int))) []).tmps)=true:=by unfold aa;rw[kV]
 refine Sil.value (.int .i64 ((i+1:Nat):Int)) xP DI (by decide) (λw1=>?_) ?_
 ·have ZP:(ah (T.setIfInBounds 40 (.int .i64 ((i+1:Nat):Int))) []).eval (.tmp 40)=.int .i64 ((i+1:Nat):Int):=vw (by rw[fC];omega);generalize (ah (T.setIfInBounds 40 (.int .i64 ((i+1:Nat):Int))) []).eval=e at*;unfold ai;constructor
  ·simp[go_sem,jS,ZP]
  ·simp[go_sem,jS,ZP]
 rw[hd1];change Sil _ (bS.at ⟨(T.setIfInBounds 40 (.int .i64 ((i+1:Nat):Int))).setIfInBounds 26 (.int .i64 ((i+1:Nat):Int)),[]⟩ (.inRegion R17 []::_)) _ _ _;refine Sil.ctl (λw1=>aq) ?_;exact Sil.ctl (λw1=>stepG_inLoop) (Sil.refl _ _)
end
def BGo (cs:List al) (fr:al) (w:ae) (SB:Blocks) (Z:al->ae->Prop):Prop:=
 ∀(d:Nat) (gs:Array am) (sl:Option (Nat×Nat)) (t:bD) (q:Nat->Nat),gs[0]?=some (G fr cs)->bE prog t gs q->xw SB (w.at d) gs.size t->
  ∃(fE:Array am) (fw:al) (w':ae) (sl':Option (Nat×Nat)) (t':bD) (q':Nat->Nat),Runs prog gs (w.at d) sl t fE w' sl' t'/\fE.size=gs.size/\Z fw w'/\fE[0]?=some (G fw cs)/\bE prog t' fE q'/\xw SB w' fE.size t'
def TH (T:Array ag) (l:List (Nat×ag)):Prop:=T.size=42/\∀p∈l,T.getD p.1 ac=p.2
theorem TH.sub {T:Array ag} (h:TH T l) (hs:∀p∈l',p∈l):TH T l':=⟨h.1,λp hp=>h.2 p (hs p hp)⟩
theorem TH.set {T:Array ag} (h:TH T l) {d:Nat} (v:ag) (hd:d<42) (hs:∀p∈l',p∈l/\p.1≠d):TH (T.setIfInBounds d v) ((d,v)::l'):=by
 refine⟨by simp[h.1],λp hp=>?_⟩;rcases aB.1 hp with rfl|hp
 ·exact vw (by rw[h.1];exact hd)
 ·exact(qz (aU (hs p hp).2)).trans (h.2 p (hs p hp).1)
section
variable {cs:List al} {fr zh:al} {w:ae} {SB:Blocks} {Z:al->ae->Prop} {k:List Item} {T:Array ag}
theorem BGo.done (h:∀d,Z fr (w.at d)):BGo cs fr w SB Z:=λd gs sl t q h0 hL hP=>⟨gs,fr,w.at d,sl,t,q,⟨0,rfl⟩,rfl,h d,h0,hL,hP⟩
theorem BGo.sil (hs:Sil prog fr cs zh cs) (n:BGo cs zh w SB Z):BGo cs fr w SB Z:=λd gs sl t q h0 hL hP=>by
 obtain⟨jZ,d1,iZ,t1,q1,h1,h2,h3,h4,h5⟩:=hs.runs (SB:=SB) (sl:=sl) h0 hL hP;obtain⟨oI,iB,w2,nY,t2,q2,k1,k2,k3,k4,k5,k6⟩:=n d1 jZ iZ t1 q1 h3 h4 h5;exact⟨oI,iB,w2,nY,t2,q2,h1.trans k1,k2.trans h2,k3,k4,k5,k6⟩
theorem BGo.one (fu:(G fr cs).status=.running) (hs:∀d,∃zh w1 es,aP prog true (G fr cs) (w.at d)=.go (G zh cs) w1 es/\w.heap.size<=w1.heap.size/\(∀e∈es,EvZ SB w1.heap.size e)/\BGo cs zh w1 SB Z):BGo cs fr w SB Z:=λd gs sl t q h0 hL hP=>by
 obtain⟨N,jZ,a1,d1,w1,es,iZ,t1,q1,hr,hgo,hz,nJ,nW,pU,_⟩:=zG (P:=prog) (SB:=SB) (sl:=sl) h0 fu hL hP λd=>let⟨zh,w1,es,h1,h2,h3,_⟩:=hs d;⟨_,_,_,h1,h2,h3⟩;obtain⟨zh,gy,iV,h1,h2,h3,n⟩:=hs d1;rw[show(w.at d).at d1=w.at d1 from rfl]at hgo;rw[h1]at hgo;injection hgo with e1 e2 e3;subst e1;subst e2;subst e3;obtain⟨oI,iB,w2,nY,t2,q2,k1,k2,k3,k4,k5,k6⟩:=n gy.drawn jZ iZ t1 q1 nJ nW pU;exact⟨oI,iB,w2,nY,t2,q2,Runs.trans ⟨N,hr⟩ k1,k2.trans hz,k3,k4,k5,k6⟩
theorem BGo.val {rest:List Nat} (hT:TH T l) {d:Nat} (v:ag) (ho:ops[i]?=some o) (yG:o.dst=some d) (hg:o.guard=none) (hd:d<42) (hs:∀p∈l',p∈l/\p.1≠d)
  (hr:∀e:cM->ag,(∀p∈l,e (.tmp p.1)=p.2)->(∀c,e (.const c)=c)->∀w,(ai e o).run prog w=.ok (.value v) w/\(ai e o).events prog w #[]=#[])
  (n:∀T',TH T' ((d,v)::l')->BGo cs (bS.at ⟨T',[]⟩ (.inRegion ops rest::k)) w SB Z):BGo cs (bS.at ⟨T,[]⟩ (.inRegion ops (i::rest)::k)) w SB Z:=by
 have eY:aa o (ax ops (ah T []).tmps)=true:=by unfold aa;rw[hg]
 have ev:=hr (ah T []).eval (λp hp=>hT.2 p hp) (λ_=>rfl);refine BGo.sil (Sil.value v ho eY (by decide) ev (.refl _ _)) ?_;rw[yG];exact n _ (hT.set v hd hs)
end
theorem Fz {e:dG} (h:EvF F O e) (ha:∀b,F b->¬SB b) (hB:∀b,F b->b<B):EvZ SB B e:=⟨Kh h ha hB,λ_ hy=>(NJ h hy).1⟩
def qE (F:Blocks) (w:ae) (v:ag) (n:Nat) (xs:List ag):Prop:=
 xs.length=n*2/\((v=.slice none 0 0/\n=0)\/∃g cap cur,v=.slice (some ⟨g,0,none⟩) n cap/\F g/\w.heap[g]?=some (.cells cur 74 (0,0))/\n<=cap/\cap<=bp/\cur.toList.take (n*2)=xs/\∀x∈cur.toList,∃s,x=.string s)
theorem qE.ext {v:ag} (h:qE F w v n xs) (k:∀b,F b->w1.heap[b]?=w.heap[b]?):qE F w1 v n xs:=by
 refine⟨h.1,h.2.imp id ?_⟩;rintro⟨g,cap,cur,h1,h2,h3,h4⟩;exact⟨g,cap,cur,h1,h2,(k g h2).trans h3,h4⟩
structure TlS (ρ0:Rel) (w0:ae) (SB:Blocks) (n:Nat) (xs:List ag) (ov:ag) (ρ:Rel) (w:ae):Prop where
 le:ρ0.le ρ
 wr:WR XG ρ w w
 vr:VR XG.F ρ ov ov
 nb:NB w
 own:w.ownsRow w0.heap.size 74 2 ov n xs
 keep:∀b,b<w0.heap.size->w.heap[b]?=w0.heap[b]?
 size:w0.heap.size<=w.heap.size
 apart:∀b,rng ρ b->¬SB b
 os:w.os=w0.os
 output:w.output=w0.output
theorem TlS.at {ρ0:Rel} {w0:ae} {ov:ag} (h:TlS ρ0 w0 SB n xs ov ρ w) (d:Nat):TlS ρ0 w0 SB n xs ov ρ (w.at d):=
 ⟨h.le,⟨h.wr.fn,h.wr.inj,h.wr.heap,λ_ _=>rfl,h.wr.sh⟩,h.vr,h.nb,h.own,h.keep,h.size,h.apart,h.os,h.output⟩
theorem q40:∃i,prog.info? 74=some i/\i.zero=some (.agg #[.string ⟨#[]⟩,.string ⟨#[]⟩])/\i.size=2/\i.bytes=32:=by
 have h:(prog.info? 74).map (λi=>(i.zero,i.size,i.bytes))=some (some (.agg #[.string ⟨#[]⟩,.string ⟨#[]⟩]),2,32):=by kernel_rfl
 obtain⟨i,h1,h2⟩:=aK.1 h;injection h2 with h2 h3;injection h3 with h3 h4;exact⟨i,h1,h2,h3,h4⟩
def Dk (v x:ag):cM->ag
 |.tmp 29=>v
 |.tmp 38=>x
 |.const c=>c
 |_=>ac
theorem qlt {P:aF} {t e:cU} {i:TypeInfo} (ht:P.underlying t=some (.slice e)) (hi:P.info? e=some i) {base:Nat} {v:ag} {size:Nat} (h:w.ownsRow base e size v n xs):
  (aE #[t,t] ty #[v,.slice none 0 0]).run P w=.ok v w:=by
 rcases h.2 with⟨rfl,rfl⟩|⟨g,cap,cur,rfl,h1,h2,h3,h4,h5,h6⟩
 ·simp[aE,bq ht,sizeOf,typeInfo,hi,bA,aL,loadCells,loadCellsFrom]
 ·simp[aE,bq ht,sizeOf,typeInfo,hi,bA,aL,loadCells,loadCellsFrom,storeCells,h3]
section
variable {cs:List al} {SB:Blocks} {Z:al->ae->Prop} {k:List Item} {T:Array ag} {ρ0 ρ:Rel} {w0 w:ae} {n:Nat} {xs:List ag} {ov:ag}
theorem q94 {lv:ag} {m kk:Nat} {r:List ag} (h:TlS ρ0 w0 SB n xs ov ρ w) {Gb:Blocks} (hG:∀b,Gb b->b<w0.heap.size/\ρ0 b b) (tF:lv=.slice sa m c) (hr:qE Gb w0 lv m r) (oF:kk<=m) (CG:∀b,SB b->b<w0.heap.size) (hn:n+kk<=1073741824)
  (hT:TH T l) (h29:(29,ov)∈l) (h38:(38,.slice sa kk c)∈l) (wR:∀p∈l',p∈l/\p.1≠39/\p.1≠13)
  (nx:∀T' qX ρ' w',TlS ρ0 w0 SB (n+kk) (xs++r.take (kk*2)) qX ρ' w'->TH T' ((13,qX)::l')->BGo cs (bS.at ⟨T',[]⟩ (.inRegion R16 []::k)) w' SB Z):
  BGo cs (bS.at ⟨T,[]⟩ (.inRegion R16 [10,11]::k)) w SB Z:=by
 obtain⟨o,ho,eU,hd,hg⟩:∃o,R16[10]?=some o/\o.op=.call {callee:=.builtin .append,args:=#[.tmp 29,.tmp 38],argTypes:=#[47,47]}/\o.dst=some 39/\o.guard=none:=⟨_,rfl,rfl,rfl,rfl⟩
 have fH:kE XG.P XG.P' fb true o=true:=by
  have:R16[10]?.any (kE prog prog fb true)=true:=by kernel_rfl
  rw[ho]at this;exact this
 obtain⟨i,hi,hz,hs,hb⟩:=q40;have hu:prog.underlying 47=some (.slice 74):=underlying47;have eY:aa o (ax R16 (ah T []).tmps)=true:=by unfold aa;rw[hg]
 have e29:(ah T []).eval (.tmp 29)=ov:=hT.2 _ h29;have e38:(ah T []).eval (.tmp 38)=.slice sa kk c:=hT.2 _ h38;have gZ:ai (ah T []).eval o=ai (Dk ov (.slice sa kk c)) o:=by
  unfold ai;simp only[eU,bV,aZ,cN,e29,e38,Dk,resolve]
 refine BGo.one rfl λd=>?_;have pQ:=h.at d
 -- what it Tw
 have fu:∃v' w',(aE #[47,47] o.type #[ov,.slice sa kk c]).run prog (w.at d)=.ok v' w'/\w'.ownsRow w0.heap.size 74 2 v' (n+kk) (xs++r.take (kk*2))/\(w.at d).grownBy w' ov.ownBlock:=by
  rcases hr.2 with⟨e,rfl⟩|⟨g,cap,cur,e,h1,h2,h3,h4,h5,h6⟩
  ·obtain rfl:kk=0:=by omega
   rw[tF]at e;injection e with e1 e2 e3;subst e1;subst e3;refine⟨ov,w.at d,qlt hu hi pQ.own,?_,⟨rfl,rfl,rfl,ji _,λ_ _ _=>rfl⟩⟩;simpa using pQ.own
  ·rw[tF]at e;injection e with e1 e2 e3;subst e1;subst e3;obtain⟨v',w',k1,k2,k3,_⟩:=run_append_own (P:=prog) (w.at d) w0.heap.size 47 o.type 74 i (.agg #[.string ⟨#[]⟩,.string ⟨#[]⟩]) 2 32 hu hi hz hs hb rfl (by decide) ov n xs pQ.own ⟨g,0,none⟩ kk c (r.take (kk*2))
    (by rw[aV,hr.1];omega)
    (λj u hj=>by
     have kR:j<kk*2:=by
      have:=(aW.1 hj).1;rw[aV]at this;omega
     rw[bg kR]at hj;rw[<-h5,bg (by omega)]at hj;have hgh:w.heap[g]?=some (.cells cur 74 (0,0)):=(h.keep g (hG g h1).1).trans h2;have ea:(⟨g,0,none⟩:Addr).add j=⟨g,j,none⟩:=by rw[bF,bG]
     rw[ea];show w.cell? ⟨g,j,none⟩=some u;simp only[aH,hgh]
     simpa using hj)
    (λu hu=>by
     have hm:u∈cur.toList:=by
      have:=aQ hu;rw[<-h5]at this;exact aQ this
     obtain⟨s,rfl⟩:=h6 u hm
     rfl)
    (by unfold bp;omega) (by omega) pQ.size
   exact⟨v',w',k1,k2,k3⟩
 obtain⟨v',w',k1,k2,k3⟩:=fu;have YV:(ai (Dk ov (.slice sa kk c)) o).run XG.P (w.at d)=.ok (.value v') w':=by
  unfold ai;show Sem.run prog _ _=_;simp only[eU,resolve,invoke,builtin,dI,dJ,Result.andThen_ok,bV,aZ,cN,Dk,k1]
 have hvx:VR XG.F ρ (.slice sa kk c) (.slice sa kk c):=by
  rcases hr.2 with⟨e,_⟩|⟨g,cap,cur,e,h1,_⟩
  ·rw[tF]at e;injection e with e1 e2 e3;subst e1;exact .jv _ _
  ·rw[tF]at e;injection e with e1 e2 e3;subst e1;exact .slice (h.le _ _ (hG g h1).2)
 have iG:EvR XG.F fb ρ (Dk ov (.slice sa kk c)) (Dk ov (.slice sa kk c)):=by
  refine⟨λx hx=>?_,λ_=>rfl⟩;unfold Dk;split
  ·exact h.vr
  ·exact hvx
  ·exact Hw (λ_ h=>h) _ hx
  ·exact Av
 obtain⟨ρ1,m1,m2,m3,m4,m5⟩:=NN rfl yX fH iG pQ.wr YV;have qN:∀b,rng ρ1 b->¬SB b:=λb hb hs=>by
  rcases m4.new b hb with h1|h1
  ·exact h.apart b h1 hs
  ·have:=CG b hs;have h2:w.heap.size<=b:=h1;have:=h.size;omega
 have hst:=aG (P:=prog) (main:=true) (b:=bS) (k:=k) (cs:=cs) (rest:=[11]) (a:=ah T []) (w:=w.at d) ho eY (by decide) (by rw[gZ];exact YV);have wU:TlS ρ0 w0 SB (n+kk) (xs++r.take (kk*2)) v' ρ1 w':=by
  refine⟨Rel.le_trans h.le m1,m2,m3,m5 h.nb,k2,λb hb=>?_,xlt h.size k3.size,qN,k3.os.trans h.os,k3.output.trans h.output⟩;refine(k3.block b (xll hb h.size) λe=>?_).trans (h.keep b hb);have:=(h.own.lt b e.symm).1;omega
 refine⟨_,w',_,hst,k3.size,λe he=>?_,?_⟩
 ·have:=bi he;rw[gZ]at this;exact Fz (m4.ev e this) qN m4.low
 ·rw[hd];have hTs:TH (T.setIfInBounds 39 v') ((39,v')::l'):=hT.set v' (by decide) λp hp=>⟨(wR p hp).1,(wR p hp).2.1⟩
  change BGo cs (bS.at ⟨T.setIfInBounds 39 v',[]⟩ (.inRegion R16 [11]::k)) w' SB Z;obtain⟨o1,xP,jS,hd1,kV⟩:∃o,R16[11]?=some o/\o.op=.assign (.tmp 39)/\o.dst=some 13/\o.guard=none:=⟨_,rfl,rfl,rfl,rfl⟩
  refine BGo.val hTs v' xP hd1 kV (by decide) (l':=l') (λp hp=>⟨.tail _ hp,(wR p hp).2.2⟩) (λe he hc w=>?_) λT1 Mq=>nx T1 v' ρ1 w' wU Mq;have ZQ:=he (39,v') (.head _);unfold ai;constructor
  ·simp[go_sem,jS,ZQ]
  ·simp[go_sem,jS,ZQ]
end
section
variable {cs:List al} {SB:Blocks} {Z:al->ae->Prop} {k:List Item} {T:Array ag} {w:ae} {ov lv:ag} {fs:Array ag} {most:Int}
theorem jen (hi:i<4) (hv:fs[i]?=some lv) (hT:TH T [(13,ov),(25,.agg fs),(26,.int .i64 i),(3,.int .i64 most)])
  (n:∀T',TH T' [(15,lv),(13,ov),(25,.agg fs),(26,.int .i64 i),(3,.int .i64 most)]->BGo cs (bS.at ⟨T',[]⟩ (.code (.region 16 R16 false)::k)) w SB Z):
  BGo cs (bS.at ⟨T,[]⟩ (.code tIn::k)) w SB Z:=by
 rw[jem];refine BGo.sil (Sil.ctl (λw1=>aC) (Sil.ctl (λw1=>az) (.refl _ _))) ?_;change BGo cs (bS.at ⟨T,[]⟩ (.inRegion R15 [0,1]::_)) _ _ _;obtain⟨o150,jhz,XV,JU,jhj⟩:∃o,R15[0]?=some o/\o.op=.index 112 (.tmp 25) (.tmp 26)/\o.dst=some 28/\o.guard=none:=⟨_,rfl,rfl,rfl,rfl⟩
 refine BGo.val hT (lv) jhz JU jhj (by decide) (l':=[(13,ov),(25,.agg fs),(26,.int .i64 i),(3,.int .i64 most)]) (by simp) (λe he hc w=>?_) λT hT=>?_
 ·have CO:=he (26,.int .i64 i) (by simp);have Z5:=he (25,.agg fs) (by simp);unfold ai;constructor
  ·simp[go_sem,XV,CO,Z5,hv,Instr.index,part];try(intro h4;omega)
  ·simp[go_sem,XV,CO,Z5,hv,Instr.index,part];try(intro h4;omega)
 obtain⟨o151,jh0,XU,JS,jhk⟩:∃o,R15[1]?=some o/\o.op=.assign (.tmp 28)/\o.dst=some 15/\o.guard=none:=⟨_,rfl,rfl,rfl,rfl⟩
 refine BGo.val hT (lv) jh0 JS jhk (by decide) (l':=[(13,ov),(25,.agg fs),(26,.int .i64 i),(3,.int .i64 most)]) (by simp) (λe he hc w=>?_) λT hT=>?_
 ·have Z4:=he (28,lv) (by simp);unfold ai;constructor
  ·simp[go_sem,XU,Z4]
  ·simp[go_sem,XU,Z4]
 refine BGo.sil (Sil.ctl (λw1=>aq) (.refl _ _)) ?_;exact n T hT
theorem tCut {m nn kk:Nat} {oa:Option Addr} {oc:Nat} (tF:lv=.slice sa m c) (IV:ov=.slice oa nn oc) (h0:(nn:Int)<=most) (h1:most<=9223372036854775807) (oF:(kk:Int)=if most-nn<m then most-nn else m) (Zh:m<=c)
  (hT:TH T [(15,lv),(13,ov),(25,.agg fs),(26,.int .i64 i),(3,.int .i64 most)])
  (n:∀T',TH T' [(38,.slice sa kk c),(29,ov),(25,.agg fs),(26,.int .i64 i),(3,.int .i64 most)]->BGo cs (bS.at ⟨T',[]⟩ (.inRegion R16 [10,11]::k)) w SB Z):
  BGo cs (bS.at ⟨T,[]⟩ (.code (.region 16 R16 false)::k)) w SB Z:=by
 subst tF;subst IV;have hkm:kk<=m:=by split at oF<;>omega
 have zR:kk<=c:=by omega
 have pq:IntKind.i64.wrap (most-nn)=most-nn:=by rw[IntKind.wrap_i64];omega
 refine BGo.sil (Sil.ctl (λw1=>az) (.refl _ _)) ?_;change BGo cs (bS.at ⟨T,[]⟩ (.inRegion R16 [0,1,2,3,4,5,6,7,8,9,10,11]::_)) _ _ _;obtain⟨o160,jh1,XT,JR,jhl⟩:∃o,R16[0]?=some o/\o.op=.move (.tmp 13)/\o.dst=some 29/\o.guard=none:=⟨_,rfl,rfl,rfl,rfl⟩
 refine BGo.val hT (.slice oa nn oc) jh1 JR jhl (by decide) (l':=[(15,.slice sa m c),(13,.slice oa nn oc),(25,.agg fs),(26,.int .i64 i),(3,.int .i64 most)]) (by simp) (λe he hc w=>?_) λT hT=>?_
 ·have zY:=he (13,.slice oa nn oc) (by simp);unfold ai;constructor
  ·simp[go_sem,XT,zY]
  ·simp[go_sem,XT,zY]
 obtain⟨o161,jh2,XR,jha,jhm⟩:∃o,R16[1]?=some o/\o.op=.move (.tmp 15)/\o.dst=some 30/\o.guard=none:=⟨_,rfl,rfl,rfl,rfl⟩
 refine BGo.val hT (.slice sa m c) jh2 jha jhm (by decide) (l':=[(29,.slice oa nn oc),(15,.slice sa m c),(13,.slice oa nn oc),(25,.agg fs),(26,.int .i64 i),(3,.int .i64 most)]) (by simp) (λe he hc w=>?_) λT hT=>?_
 ·have Jr:=he (15,.slice sa m c) (by simp);unfold ai;constructor
  ·simp[go_sem,XR,Jr]
  ·simp[go_sem,XR,Jr]
 obtain⟨o162,jh3,XQ,jhb,jhn⟩:∃o,R16[2]?=some o/\o.op=.move (.tmp 15)/\o.dst=some 31/\o.guard=none:=⟨_,rfl,rfl,rfl,rfl⟩
 refine BGo.val hT (.slice sa m c) jh3 jhb jhn (by decide) (l':=[(30,.slice sa m c),(29,.slice oa nn oc),(15,.slice sa m c),(13,.slice oa nn oc),(25,.agg fs),(26,.int .i64 i),(3,.int .i64 most)]) (by simp) (λe he hc w=>?_) λT hT=>?_
 ·have Jr:=he (15,.slice sa m c) (by simp);unfold ai;constructor
  ·simp[go_sem,XQ,Jr]
  ·simp[go_sem,XQ,Jr]
 obtain⟨o163,jh4,XP,jhc,jho⟩:∃o,R16[3]?=some o/\o.op=.call {callee:=.builtin .len,args:=#[.tmp 31],argTypes:=#[47]}/\o.dst=some 32/\o.guard=none:=⟨_,rfl,rfl,rfl,rfl⟩
 refine BGo.val hT (.int .i64 m) jh4 jhc jho (by decide) (l':=[(31,.slice sa m c),(30,.slice sa m c),(29,.slice oa nn oc),(15,.slice sa m c),(13,.slice oa nn oc),(25,.agg fs),(26,.int .i64 i),(3,.int .i64 most)]) (by simp) (λe he hc w=>?_) λT hT=>?_
 ·have ZY:=he (31,.slice sa m c) (by simp);unfold ai;constructor
  ·simp[go_sem,XP,ZY,bY]
  ·simp[go_sem,XP,ZY,bY]
 obtain⟨o164,jh5,XO,jhd,jhp⟩:∃o,R16[4]?=some o/\o.op=.move (.tmp 3)/\o.dst=some 33/\o.guard=none:=⟨_,rfl,rfl,rfl,rfl⟩
 refine BGo.val hT (.int .i64 most) jh5 jhd jhp (by decide) (l':=[(32,.int .i64 m),(31,.slice sa m c),(30,.slice sa m c),(29,.slice oa nn oc),(15,.slice sa m c),(13,.slice oa nn oc),(25,.agg fs),(26,.int .i64 i),(3,.int .i64 most)]) (by simp) (λe he hc w=>?_) λT hT=>?_
 ·have b3:=he (3,.int .i64 most) (by simp);unfold ai;constructor
  ·simp[go_sem,XO,b3]
  ·simp[go_sem,XO,b3]
 obtain⟨o165,jh6,XM,jhe,jhq⟩:∃o,R16[5]?=some o/\o.op=.move (.tmp 13)/\o.dst=some 34/\o.guard=none:=⟨_,rfl,rfl,rfl,rfl⟩
 refine BGo.val hT (.slice oa nn oc) jh6 jhe jhq (by decide) (l':=[(33,.int .i64 most),(32,.int .i64 m),(31,.slice sa m c),(30,.slice sa m c),(29,.slice oa nn oc),(15,.slice sa m c),(13,.slice oa nn oc),(25,.agg fs),(26,.int .i64 i),(3,.int .i64 most)]) (by simp) (λe he hc w=>?_) λT hT=>?_
 ·have zY:=he (13,.slice oa nn oc) (by simp);unfold ai;constructor
  ·simp[go_sem,XM,zY]
  ·simp[go_sem,XM,zY]
 obtain⟨o166,jh7,XL,jhf,jhr⟩:∃o,R16[6]?=some o/\o.op=.call {callee:=.builtin .len,args:=#[.tmp 34],argTypes:=#[47]}/\o.dst=some 35/\o.guard=none:=⟨_,rfl,rfl,rfl,rfl⟩
 refine BGo.val hT (.int .i64 nn) jh7 jhf jhr (by decide) (l':=[(34,.slice oa nn oc),(33,.int .i64 most),(32,.int .i64 m),(31,.slice sa m c),(30,.slice sa m c),(29,.slice oa nn oc),(15,.slice sa m c),(13,.slice oa nn oc),(25,.agg fs),(26,.int .i64 i),(3,.int .i64 most)]) (by simp) (λe he hc w=>?_) λT hT=>?_
 ·have ZV:=he (34,.slice oa nn oc) (by simp);unfold ai;constructor
  ·simp[go_sem,XL,ZV,bY]
  ·simp[go_sem,XL,ZV,bY]
 obtain⟨o167,jh8,XK,JQ,jhs⟩:∃o,R16[7]?=some o/\o.op=.binOp .sub 3 (.tmp 33) (.tmp 35) 3/\o.dst=some 36/\o.guard=none:=⟨_,rfl,rfl,rfl,rfl⟩
 refine BGo.val hT (.int .i64 (most-nn)) jh8 JQ jhs (by decide) (l':=[(35,.int .i64 nn),(34,.slice oa nn oc),(33,.int .i64 most),(32,.int .i64 m),(31,.slice sa m c),(30,.slice sa m c),(29,.slice oa nn oc),(15,.slice sa m c),(13,.slice oa nn oc),(25,.agg fs),(26,.int .i64 i),(3,.int .i64 most)]) (by simp) (λe he hc w=>?_) λT hT=>?_
 ·have ZW:=he (33,.int .i64 most) (by simp);have ZU:=he (35,.int .i64 nn) (by simp);unfold ai;constructor
  ·simp[go_sem,XK,ZW,ZU,pq]
  ·simp[go_sem,XK,ZW,ZU,pq]
 obtain⟨o168,jh9,XJ,JP,jht⟩:∃o,R16[8]?=some o/\o.op=.call {callee:=.builtin .min,args:=#[.tmp 32,.tmp 36],argTypes:=#[3,3]}/\o.dst=some 37/\o.guard=none:=⟨_,rfl,rfl,rfl,rfl⟩
 refine BGo.val hT (.int .i64 kk) jh9 JP jht (by decide) (l':=[(36,.int .i64 (most-nn)),(35,.int .i64 nn),(34,.slice oa nn oc),(33,.int .i64 most),(32,.int .i64 m),(31,.slice sa m c),(30,.slice sa m c),(29,.slice oa nn oc),(15,.slice sa m c),(13,.slice oa nn oc),(25,.agg fs),(26,.int .i64 i),(3,.int .i64 most)]) (by simp) (λe he hc w=>?_) λT hT=>?_
 ·have ZX:=he (32,.int .i64 m) (by simp);have ZT:=he (36,.int .i64 (most-nn)) (by simp);unfold ai;constructor
  ·simp[go_sem,XJ,ZX,ZT,dK,dL,oF]
  ·simp[go_sem,XJ,ZX,ZT,dK,dL,oF]
 obtain⟨o169,jia,XI,jhg,jhu⟩:∃o,R16[9]?=some o/\o.op=.slice 47 (.tmp 30) none (some (.tmp 37)) none/\o.dst=some 38/\o.guard=none:=⟨_,rfl,rfl,rfl,rfl⟩
 refine BGo.val hT (.slice sa kk c) jia jhg jhu (by decide) (l':=[(37,.int .i64 kk),(36,.int .i64 (most-nn)),(35,.int .i64 nn),(34,.slice oa nn oc),(33,.int .i64 most),(32,.int .i64 m),(31,.slice sa m c),(30,.slice sa m c),(29,.slice oa nn oc),(15,.slice sa m c),(13,.slice oa nn oc),(25,.agg fs),(26,.int .i64 i),(3,.int .i64 most)]) (by simp) (λe he hc w=>?_) λT hT=>?_
 ·have Z0:=he (30,.slice sa m c) (by simp);have ZR:=he (37,.int .i64 kk) (by simp);unfold ai;constructor
  ·simp[go_sem,XI,Z0,ZR,Instr.sliceAt,Instr.slice,Instr.sliceBounds,Instr.sliceBound,zR]
  ·simp[go_sem,XI,Z0,ZR,Instr.sliceAt,Instr.slice,Instr.sliceBounds,Instr.sliceBound,zR]
 refine n T (hT.sub ?_);simp
end
def lm (most:Nat) (m:Nat->Nat) (rows:Nat->List ag):Nat->Nat×List ag
 |0=>(0,[])
 |i+1=>((lm most m rows i).1+min (m i) (most-(lm most m rows i).1),(lm most m rows i).2++(rows i).take (min (m i) (most-(lm most m rows i).1)*2))
theorem jag (most:Nat) (m:Nat->Nat) (rows:Nat->List ag) (i:Nat):(lm most m rows i).1<=most:=by
 induction i with
 |zero=>exact xzl _
 |succ i ih=>simp only[lm];omega
theorem WJ (most:Nat) (m:Nat->Nat) (rows:Nat->List ag) {B:Nat}:∀i,(∀j,j<i->m j<=B)->(lm most m rows i).1<=i*B
 |0,_=>xzl _
 |i+1,h=>by
  have:=WJ most m rows i λj hj=>h j (by omega);have:=h i (by omega);simp only[lm];rw[Nat.succ_mul];omega
section
variable {cs:List al} {SB:Blocks} {Z:al->ae->Prop} {k:List Item} {ρ0:Rel} {w0:ae} {fs:Array ag} {lv:Nat->ag} {m:Nat->Nat} {rows:Nat->List ag} {most:Nat} {Gb:Blocks}
theorem jjz (hfs:∀i,i<4->fs[i]?=some (lv i)) (hG:∀b,Gb b->b<w0.heap.size/\ρ0 b b) (hr:∀i,i<4->qE Gb w0 (lv i) (m i) (rows i)) (CG:∀b,SB b->b<w0.heap.size) (hm:∀i,i<4->m i<=268435456) (Dz:most<=9223372036854775807)
  (nx:∀T' qX ρ' w',TlS ρ0 w0 SB (lm most m rows 4).1 (lm most m rows 4).2 qX ρ' w'->TH T' [(13,qX)]->BGo cs (bS.at ⟨T',[]⟩ (.code tE::k)) w' SB Z):
  ∀r i,i+r=4->∀T ov ρ w,TlS ρ0 w0 SB (lm most m rows i).1 (lm most m rows i).2 ov ρ w->TH T [(13,ov),(25,.agg fs),(26,.int .i64 i),(3,.int .i64 most)]->
   BGo cs (bS.at ⟨T,[]⟩ (.code tL::.inLoop tL::.inBlock 2::.code tE::k)) w SB Z:=by
 intro r;induction r with
 |zero=>
  intro i hi T ov ρ w h hT;obtain rfl:i=4:=by omega
  refine BGo.sil (YG hT.1 (hT.2 (26,.int .i64 ((4:Nat):Int)) (by simp)) (b:=false) (xdf (by decide))) ?_;refine BGo.sil (Sil.ctl (λw1=>stepG_exit rfl) (.refl _ _)) ?_;exact nx _ ov ρ w h ((hT.set (l':=[(13,ov)]) (.bool false) (by decide) (by simp)).sub (by simp))
 |succ r ih=>
  intro i hi T ov ρ w h hT;have qL:i<4:=by omega
  refine BGo.sil (YG hT.1 (hT.2 (26,.int .i64 i) (by simp)) (b:=true) (xdt (by omega))) ?_;refine BGo.sil (Sil.ctl (λw1=>dw) (Sil.ctl (λw1=>aC) (Sil.ctl (λw1=>bL) (.refl _ _)))) ?_;have Mq:TH (T.setIfInBounds 27 (.bool true)) [(13,ov),(25,.agg fs),(26,.int .i64 i),(3,.int .i64 most)]:=(hT.set (l':=[(13,ov),(25,.agg fs),(26,.int .i64 i),(3,.int .i64 most)]) (.bool true) (by decide) (by simp)).sub (by simp);generalize T.setIfInBounds 27 (.bool true)=T1 at Mq⊢;refine jen qL (hfs i qL) Mq λT2 Ml=>?_;have hle:=jag most m rows i;have Me:=hm i qL;have IV:∃oa oc,ov=.slice oa (lm most m rows i).1 oc:=by
   rcases h.own.2 with⟨rfl,e⟩|⟨g,cap,cur,rfl,_⟩
   ·exact⟨none,0,by rw[e]⟩
   ·exact⟨_,_,rfl⟩
  obtain⟨oa,oc,IV⟩:=IV;have tF:∃sa c,lv i=.slice sa (m i) c/\m i<=c:=by
   rcases(hr i qL).2 with⟨e,e2⟩|⟨g,cap,cur,e,_,_,h1,_⟩
   ·exact⟨none,0,by rw[e,e2],by omega⟩
   ·exact⟨_,_,e,h1⟩
  obtain⟨sa,c,tF,Zh⟩:=tF;have oF:((min (m i) (most-(lm most m rows i).1):Nat):Int)=if(most:Int)-((lm most m rows i).1:Nat)<(m i:Nat)then(most:Int)-((lm most m rows i).1:Nat)else(m i:Nat):=by
   split<;>omega
  refine tCut tF IV (by omega) (by omega) oF Zh Ml λT3 Jj=>?_;have hb:=WJ most m rows (B:=268435456) i λj hj=>hm j (by omega);have gK:i*268435456<=3*268435456:=cx _ (by omega);refine q94 (kk:=min (m i) (most-(lm most m rows i).1)) (l':=[(25,.agg fs),(26,.int .i64 i),(3,.int .i64 most)]) h hG tF (hr i qL) (Nat.min_le_left _ _) CG (by omega) Jj (by simp) (by simp) (by simp) λT4 qX ρ' w' h' QL=>?_;refine BGo.sil (jj1 qL QL.1 (QL.2 (26,.int .i64 i) (by simp))) ?_;refine ih (i+1) (by omega) _ qX ρ' w' h' ?_;have e1:=QL.set (l':=[(13,qX),(25,.agg fs),(3,.int .i64 most)]) (d:=40) (.int .i64 ((i+1:Nat):Int)) (by decide) (by simp);exact(e1.set (l':=[(13,qX),(25,.agg fs),(3,.int .i64 most)]) (d:=26) (.int .i64 ((i+1:Nat):Int)) (by decide) (by simp)).sub (by simp)
end
theorem Same.trans {b c:ae} (h:Same a b) (k:Same b c):Same a c:=⟨k.heap.trans h.heap,k.os.trans h.os,k.output.trans h.output⟩
theorem Same.at (w:ae) (d:Nat):Same w (w.at d):=⟨rfl,rfl,rfl⟩
theorem Same.re (w:ae) (τ:Tape):Same w (re w τ):=⟨rfl,rfl,rfl⟩
def qf (N:Blocks) (kv:List ag) (cs:List al) (fr:al) (w:ae) (eX:List al) (Z:al->ae->Prop):Prop:=
 ∀(wc:ae),Same w wc->∀(gs:Array am) (sl:Option (Nat×Nat)) (t:bD) (SB:Blocks) (ρ:Rel) (q:Nat->Nat),Co XG fb blG SB ρ gs fr cs wc t q->(∀b,N b->¬SB b)->(∀v∈kv,VR XG.F ρ v v)->
  ∃(fE:Array am) (fw:al) (w':ae) (sl':Option (Nat×Nat)) (t':bD) (Rk:Blocks) (ρ':Rel) (q':Nat->Nat),Runs XG.P gs wc sl t fE w' sl' t'/\Z fw w'/\Co XG fb blG Rk ρ' fE fw eX w' t' q'/\(∀b,N b->¬Rk b)/\∀v∈kv,VR XG.F ρ' v v
section
variable {N:Blocks} {kv:List ag} {cs eX CK:List al} {fr zh iB:al} {w w1:ae} {Z Z':al->ae->Prop} {b:al} {a:Act} {k:List Item}
theorem qf.same (h:qf N kv cs fr w eX Z) (s:Same w w1):qf N kv cs fr w1 eX Z:=λwc hs=>h wc (s.trans hs)
theorem qf.done (h:∀wc,Same w wc->Z fr wc):qf N kv cs fr w cs Z:=λwc hs gs sl t SB ρ q hc hN hK=>⟨gs,fr,wc,sl,t,SB,ρ,q,⟨0,rfl⟩,h wc hs,hc,hN,hK⟩
theorem qf.then (h:qf N kv cs fr w eX Z) (k:∀zh w1,Z zh w1->qf N kv eX zh w1 CK Z'):qf N kv cs fr w CK Z':=λwc hs gs sl t SB ρ q hc hN hK=>by
 obtain⟨jZ,zh,w1,iZ,t1,Rj,ρ1,q1,h1,h2,h3,pV,hK1⟩:=h wc hs gs sl t SB ρ q hc hN hK;obtain⟨oI,iB,w2,nY,t2,tV,ρ2,q2,h4,h5,h6,h7⟩:=k zh w1 h2 w1 (Same.refl _) jZ iZ t1 Rj ρ1 q1 h3 pV hK1;exact⟨oI,iB,w2,nY,t2,tV,ρ2,q2,h1.trans h4,h5,h6,h7⟩
theorem qf.mono (h:qf N kv cs fr w eX Z) (k:∀zh w1,Z zh w1->Z' zh w1):qf N kv cs fr w eX Z':=λwc hs gs sl t SB ρ q hc hN hK=>
 let⟨jZ,zh,w1,iZ,t1,Rj,ρ1,q1,h1,h2,h3⟩:=h wc hs gs sl t SB ρ q hc hN hK
 ⟨jZ,zh,w1,iZ,t1,Rj,ρ1,q1,h1,k _ _ h2,h3⟩
abbrev FSt (ρ:Rel) (f:al):Prop:=FR XG fb true ρ (wt f []) (wt f [])
abbrev FSb (ρ:Rel) (f:al):Prop:=blG f.fn=false->FSt ρ f
theorem qf.sil (hs:Sil XG.P fr cs zh eX) (hf:∀ρ,FSb ρ fr->(∀c∈cs,FSb ρ c)->(∀v∈kv,VR XG.F ρ v v)->FSb ρ zh/\∀c∈eX,FSb ρ c) (n:qf N kv eX zh w CK Z):qf N kv cs fr w CK Z:=λwc s gs sl t SB ρ q hc hN hK=>by
 obtain⟨gF,rA⟩:=hf ρ hc.fr hc.cs hK;obtain⟨jZ,d,iZ,t1,q1,h1,h2,h3⟩:=hc.sil (sl:=sl) hs gF rA;obtain⟨oI,iB,w2,nY,t2,tV,ρ2,q2,h4,h5,h6⟩:=n (wc.at d) (s.trans (Same.at wc d)) jZ iZ t1 SB ρ q1 h3 hN hK;exact⟨oI,iB,w2,nY,t2,tV,ρ2,q2,h1.trans h4,h5,h6⟩
theorem qf.ctl {t1:List Item} (h:∀w,aP XG.P true (G fr cs) w=.go (G (wt fr t1) cs) w #[]) (n:qf N kv cs (wt fr t1) w eX Z):qf N kv cs fr w eX Z:=
 qf.sil (.step h (.refl _ _)) (λ_ h1 h2 _=>⟨h1,h2⟩) n
theorem qf.seq {x y:Code} (n:qf N kv cs (b.at a (.code x::.code y::k)) w eX Z):qf N kv cs (b.at a (.code (.seq x y)::k)) w eX Z:=qf.ctl (λ_=>aC) n
theorem qf.skip (n:qf N kv cs (b.at a k) w eX Z):qf N kv cs (b.at a (.code .skip::k)) w eX Z:=qf.ctl (λ_=>dw) n
theorem qf.cond {c:cM} {x y:Code} {t:Bool} (h:a.eval c=.bool t) (n:qf N kv cs (b.at a (.code (if t then x else y)::k)) w eX Z):qf N kv cs (b.at a (.code (.cond c x y)::k)) w eX Z:=qf.ctl (λ_=>stepG_cond h) n
theorem qf.block {c:Code} (n:qf N kv cs (b.at a (.code c::.inBlock id::k)) w eX Z):qf N kv cs (b.at a (.code (.block id c)::k)) w eX Z:=qf.ctl (λ_=>bL) n
theorem qf.inBlock (n:qf N kv cs (b.at a k) w eX Z):qf N kv cs (b.at a (.inBlock id::k)) w eX Z:=qf.ctl (λ_=>cE) n
theorem qf.loop {c:Code} (n:qf N kv cs (b.at a (.code c::.inLoop c::k)) w eX Z):qf N kv cs (b.at a (.code (.loop c)::k)) w eX Z:=qf.ctl (λ_=>stepG_loop) n
theorem qf.inLoop {c:Code} (n:qf N kv cs (b.at a (.code c::.inLoop c::k)) w eX Z):qf N kv cs (b.at a (.inLoop c::k)) w eX Z:=qf.ctl (λ_=>stepG_inLoop) n
theorem qf.exit (h:cF id k=some k') (n:qf N kv cs (b.at a k') w eX Z):qf N kv cs (b.at a (.code (.exit id)::k)) w eX Z:=qf.ctl (λ_=>stepG_exit h) n
theorem qf.region (n:qf N kv cs (b.at a (.inRegion ops (dt ops.size)::k)) w eX Z):qf N kv cs (b.at a (.code (.region id ops false)::k)) w eX Z:=qf.ctl (λ_=>az) n
theorem qf.regionEnd (n:qf N kv cs (b.at a k) w eX Z):qf N kv cs (b.at a (.inRegion ops []::k)) w eX Z:=qf.ctl (λ_=>aq) n
theorem FSt.put {t1 t2:List Item} {d:Option Tmp} {v:ag} (h:FSt ρ (b.at a t1)) (hv:VR XG.F ρ v v):FSt ρ (b.at (a.put d v) t2):=by
 have ht:zm XG.F ρ a.tmps.toList a.tmps.toList:=h.tmps;cases d with
 |none=>exact⟨rfl,h.same,ht,.nil,h.defers,rfl,h.run,h.kind,h.kind',h.round⟩
 |some d=>exact⟨rfl,h.same,ht.Fe d hv,.nil,h.defers,rfl,h.run,h.kind,h.kind',h.round⟩
theorem qf.unwanted (ho:ops[i]?=some o) (hw:aa o (ax ops a.tmps)=false) (n:qf N kv cs (b.at (a.put o.dst ac) (.inRegion ops td::k)) w eX Z):qf N kv cs (b.at a (.inRegion ops (i::td)::k)) w eX Z:=
 qf.sil (.step (λ_=>stepG_unwanted ho hw) (.refl _ _)) (λ_ h1 h2 _=>⟨λhb=>FSt.put (h1 hb) Av,h2⟩) n
theorem qf.code {c:Code} {Q:Exit->Act->ae->Prop} (gB:blG b.fn=false) (hc:codeOk XG.P XG.P fb true c=true) (xO:Plain k Q) (tQ:∀e a w wc,Same w wc->Q e a w->Q e a wc) (hp:∀wc,Same w wc->c.wp XG.P Q a wc)
  (n:∀e a' w' fw,Q e a' w'->Ca b k e a' fw->qf N kv cs fw w' eX Z):qf N kv cs (b.at a (.code c::k)) w eX Z:=λwc s gs sl t SB ρ q iL hN hK=>by
 obtain⟨jZ,zh,w1,iZ,t1,q1,ρ1,h1,_,hle,⟨e,a',h2,h3⟩,h4⟩:=iL.code (sl:=sl) rfl yX gB hc xO tQ λτ _=>hp (re wc τ) (s.trans (Same.re wc τ));obtain⟨oI,iB,w2,nY,t2,tV,ρ2,q2,h5,h6,h7⟩:=n e a' w1 zh h2 h3 w1 (Same.refl _) jZ iZ t1 SB ρ1 q1 h4 hN λv hv=>(hK v hv).mono hle;exact⟨oI,iB,w2,nY,t2,tV,ρ2,q2,h1.trans h5,h6,h7⟩
theorem qf.op {ops:Array Oper} {i:Nat} {td:List Nat} {o:Oper} {Q:Act->ae->Prop} (gB:blG b.fn=false) (id:Nat) (ho:ops[i]?=some o) (fH:kE XG.P XG.P fb true (bare o)=true) (eY:aa o (ax ops a.tmps)=true) (tQ:∀a w wc,Same w wc->Q a w->Q a wc)
  (hp:∀wc,Same w wc->(Code.region id #[bare o] false).wp XG.P (λe a' w'=>e=.normal/\Q a' w') a wc)
  (n:∀a' w',Q a' w'->qf N kv cs (b.at a' (.inRegion ops td::k)) w' eX Z):qf N kv cs (b.at a (.inRegion ops (i::td)::k)) w eX Z:=λwc s gs sl t SB ρ q iL hN hK=>by
 obtain⟨jZ,zh,w1,iZ,t1,q1,ρ1,h1,_,hle,⟨a',h2,rfl⟩,h4⟩:=iL.op (sl:=sl) rfl yX gB ho fH eY tQ (id:=id) λτ _=>hp (re wc τ) (s.trans (Same.re wc τ));obtain⟨oI,iB,w2,nY,t2,tV,ρ2,q2,h5,h6,h7⟩:=n a' w1 h2 w1 (Same.refl _) jZ iZ t1 SB ρ1 q1 h4 hN λv hv=>(hK v hv).mono hle;exact⟨oI,iB,w2,nY,t2,tV,ρ2,q2,h1.trans h5,h6,h7⟩
def Leaves (fr:al) (v:ag):Prop:=fr.mode=.returning/\fr.defers=[]/\fr.kind=.normal/\∃fn,XG.P.funcs[fr.fn]?=some fn/\∀w,(results fn fr.tmps).runT XG.P w #[]=(.ok v w,#[])
def Ret (f:aA) (R:ag->ae->Prop) (fr:al) (w:ae):Prop:=
 fr.fn=f/\∃v,Leaves fr v/\(∀ρ,zm XG.F ρ fr.tmps.toList fr.tmps.toList->VR XG.F ρ v v)/\R v w
def yU (N:Blocks) (kv:List ag) (f:aA) (args:Array ag) (w:ae) (R:ag->ae->Prop):Prop:= ∀cs,qf N kv cs (ao XG.P f args .normal) w cs (Ret f R)
def oz (N:Blocks) (kv:List ag) (f:aA) (args:Array ag) (w:ae) (R:ag->ae->Prop):Prop:= ∀c cs,qf N kv (c::cs) (ao XG.P f args .normal) w cs (λfr w'=>∃v,fr=c.finish v/\R v w')
theorem oz.mono {args:Array ag} {R':ag->ae->Prop} (h:oz N kv f args w R) (k:∀v w,R v w->R' v w):oz N kv f args w R':=
 λc cs=>(h c cs).mono λ_ _ ⟨v,h1,h2⟩=>⟨v,h1,k _ _ h2⟩
theorem Oo (P:aF) (f:aA) (args:Array ag):(ao P f args .normal).fn=f:=rfl
theorem FSt.enter {ρ:Rel} {f:aA} {fn:Func} {args:Array ag} (hf:XG.P.funcs[f]?=some fn) (ha:zm XG.F ρ args.toList args.toList):FSt ρ (ao XG.P f args .normal):=by
 show FR XG fb true ρ (wt (ao XG.P f args .normal) []) (wt (ao XG.P f args .normal) []);unfold ao;simp only[hf];refine⟨rfl,⟨fn,hf,hf⟩,?_,.nil,.nil,rfl,.inl rfl,rfl,rfl,.inl ⟨rfl,rfl⟩⟩;refine ha.DV ?_;rw[Array.toList_replicate];exact zm.replicate Av _
theorem FSt.finish {f:al} {v:ag} (h:FSt ρ f) (hv:VR XG.F ρ v v):FSt ρ (f.finish v):=by
 have key:∀(tm:Array ag) (td:List Item),zm XG.F ρ tm.toList tm.toList->FSt ρ {f with tmps:=tm,todo:=td}:=λtm td ht=>⟨rfl,h.same,ht,.nil,h.defers,rfl,h.run,h.kind,h.kind',h.round⟩
 unfold dN;split
 ·refine key _ _ ?_;split
  ·exact h.tmps.Fe _ hv
  ·exact h.tmps
 ·exact key _ _ h.tmps
 ·exact key _ _ h.tmps
 ·exact key _ _ h.tmps
 ·exact key _ _ (.cons hv .nil)
 ·exact h
theorem Frame.Le (c:al) (v:ag):(c.finish v).fn=c.fn:=by
 unfold dN;split<;>first|rfl|(split<;>rfl)
theorem Lp {fr c:al} {v:ag} {w:ae} (h:Leaves fr v):aP XG.P true (G fr (c::cs)) w=.go (G (c.finish v) cs) w #[]:=by
 obtain⟨hm,hd,hk,fn,hf,hr⟩:=h;rw[yj _ _ _ _ _ hm];obtain⟨Gq,J3,YF,G5,GA,GK,TM⟩:=fr;obtain rfl:G5=[]:=hd;obtain rfl:GA=.returning:=hm;obtain rfl:GK=.normal:=hk;have hf:XG.P.funcs[Gq]?=some fn:=hf;have hr:(results fn J3).runT XG.P w #[]=(.ok v w,#[]):=hr w;unfold unwind;dsimp only;rw[hf];dsimp only;rw[hr];rfl
theorem yU.calls {args:Array ag} (gB:blG f=false) (hS:∀v w wc,Same w wc->R v w->R v wc) (h:yU N kv f args w R):oz N kv f args w R:=λc cs=>by
 refine(h (c::cs)).then ?_;rintro zh w1 ⟨uO,v,hl,hv,hr⟩;exact qf.sil (.step (λw=>Lp hl) (.refl _ _)) (λρ h1 h2 _=>⟨λhb=>FSt.finish (h2 c (.head _) (by rw[<-Frame.Le c v];exact hb)) (hv ρ (h1 (by rw[uO];exact gB)).tmps),λc hc=>h2 c (.tail _ hc)⟩) (qf.done λwc s=>⟨v,rfl,hS _ _ _ s hr⟩)
theorem qf.call {fn:Func} {args:Array ag} (ho:ops[i]?=some o) (hw:aa o (ax ops a.tmps)=true) (hk:b.kind≠.early)
  (ev:∀w,(ai a.eval o).run XG.P w=.ok (.enter f args) w/\(ai a.eval o).events XG.P w #[]=#[]) (hf:XG.P.funcs[f]?=some fn)
  (ic:∀ρ,FSb ρ (b.at a (.inRegion ops (i::td)::k))->(∀v∈kv,VR XG.F ρ v v)->blG f=false->zm XG.F ρ args.toList args.toList)
  (lg:oz N kv f args w R) (n:∀v w',R v w'->qf N kv cs (b.at (a.put o.dst v) (.inRegion ops td::k)) w' eX Z):qf N kv cs (b.at a (.inRegion ops (i::td)::k)) w eX Z:=by
 have hs:∀w,aP XG.P true (G (b.at a (.inRegion ops (i::td)::k)) cs) w=.go (G (ao XG.P f args .normal) (b.at a (.inRegion ops (i::td)::k)::cs)) w #[]:=λw=>by
  rw[cq ho hw hk (ev w).1];unfold listed;rw[(ev w).2,bH]
 refine qf.sil (.step hs (.refl _ _)) (λρ h1 h2 hk=>⟨λhb=>FSt.enter hf (ic ρ h1 hk (by rw[<-Oo XG.P f args];exact hb)),λc hc=>?_⟩) ((lg _ _).then ?_)
 ·rcases aB.1 hc with rfl|hc
  ·exact h1
  ·exact h2 c hc
 rintro zh w1 ⟨v,rfl,hr⟩;rw[Frame.finish_at,ho];exact n v w1 hr
theorem qf.ret (h:∀wc,Same w wc->Z {b.at a (.code .ret::k)with mode:=.returning} wc):qf N kv cs (b.at a (.code .ret::k)) w cs Z:=
 qf.sil (.step (λ_=>stepG_ret') (.refl _ _)) (λ_ h1 h2 _=>⟨λhb=>let h1:=h1 hb;⟨rfl,h1.same,h1.tmps,.nil,h1.defers,rfl,.inr rfl,h1.kind,h1.kind',h1.round⟩,h2⟩) (qf.done h)
end
end
end Ph
namespace Sim
open Go Go.Conc
def dg (ρ:Rel):Rel:=λa b=>a=b/\∃x,ρ x b
section
variable {F:aA->Prop} {ρ:Rel}
theorem Al {a b:Nat} (h:ρ a b):dg ρ b b:=⟨rfl,a,h⟩
mutual
theorem VR.right:∀{v v':ag},VR F ρ v v'->VR F (dg ρ) v' v'
 |_,_,.bool b=>.bool b
 |_,_,.int k n=>.int k n
 |_,_,.string s=>.string s
 |_,_,.qH=>.qH
 |_,_,.ptr r=>.ptr (Al r)
 |_,_,.jv n c=>.jv n c
 |_,_,.slice r=>.slice (Al r)
 |_,_,.sH=>.sH
 |_,_,.map r=>.map (Al r)
 |_,_,.func f r=>.func f r.right
 |_,_,.yield r=>.yield (Al r)
 |_,_,.nilFunc=>.nilFunc
 |_,_,.agg r=>.agg r.right
 |_,_,.tuple r=>.tuple r.right
theorem zm.right:∀{l l':List ag},zm F ρ l l'->zm F (dg ρ) l' l'
 |_,_,.nil=>.nil
 |_,_,.cons a b=>.cons a.right b.right
end
theorem ER.right {e e':bI} (h:ER F ρ e e'):ER F (dg ρ) e' e':=⟨h.key.right,h.val.right,rfl⟩
theorem EsR.right:∀{l l':List bI},EsR F ρ l l'->EsR F (dg ρ) l' l'
 |_,_,.nil=>.nil
 |_,_,.cons a b=>.cons a.right b.right
theorem DsR.right:∀{l l':List dq},DsR ρ l l'->DsR (dg ρ) l' l'
 |_,_,.nil=>.nil
 |_,_,.cons a b=>.cons (Al a) b.right
theorem rT.right {x x':Option Nat} (h:rT ρ x x'):rT (dg ρ) x' x':=by
 rcases h with⟨_,h⟩|⟨l,l',_,h,r⟩
 ·exact .inl ⟨h,h⟩
 ·exact .inr ⟨l',l',h,h,Al r⟩
variable {X:Cx} {Fb:aA->Bool} {wr:Bool}
theorem OR.right {o o':Obj} (h:OR X ρ o o'):OR X (dg ρ) o' o':=by
 cases h with
 |cells a b=>exact .cells a.right (.inl rfl)
 |map a=>exact .map a.right
 |stringIter s p=>exact .stringIter s p
 |Ck a b c=>exact .Ck a b c
 |mapIter r=>exact .mapIter (Al r)
 |loop a b c d e g=>exact .loop a.right (Al b) c d e g
 |number l r=>exact .number l (Al r)
 |Ed=>exact .Ed
 |deferred=>exact .deferred
theorem WR.right (h:WR X ρ w w') (hs:∀a,¬X.Sh a):WR X (dg ρ) w' w':=
 ⟨λh1 h2=>h1.1.symm.trans h2.1,λh1 h2=>h1.1.trans h2.1.symm,λ{a b} ⟨e,x,hx⟩=>by
  subst e;obtain⟨o,o',_,k2,k3⟩:=h.heap hx
  exact⟨o',o',k2,k2,k3.right⟩,λ_ _=>rfl,λa ha=>(hs a ha).elim⟩
end
end Sim
namespace Ph
section
open Go Go.Conc Go.ConcN Sim
section
variable {X:Cx} {Fb:aA->Bool} {wr:Bool} {ρ:Rel}
theorem Vi {f f':al} (h:FR X Fb wr ρ (wt f []) (wt f' [])):FR X Fb wr (dg ρ) (wt f' []) (wt f' []):=
 ⟨rfl,let⟨g,h1,h2⟩:=h.same;⟨g,by rw[h.fn];exact h1,by rw[h.fn];exact h2⟩,h.tmps.right,.nil,h.defers.right,rfl,by have:=h.run;rw[<-h.mode]at this;exact this,h.kind',h.kind',h.round.right⟩
end
theorem jdy (ρ:Rel):rng (dg ρ)=rng ρ:=by
 funext b;exact propext ⟨λ⟨_,_,h⟩=>h,λ⟨a,h⟩=>⟨b,rfl,a,h⟩⟩
theorem Xy (ρ:Rel):own XG ρ=rng ρ:=by
 funext b;exact propext ⟨λ⟨a,h,_⟩=>⟨a,h⟩,λ⟨a,h⟩=>⟨a,h,λh=>h⟩⟩
theorem Co.diag (h:Co XG fb blG SB ρ gs fr cs w t q):Co XG fb blG SB (dg ρ) gs fr cs w t q:=
 ⟨h.g0,h.leavers,h.past,by rw[Xy,jdy];have:=h.foot;rwa [Xy]at this,λhb=>Vi (h.fr hb),λc hc hb=>Vi (h.cs c hc hb),h.wr.right λ_ h=>h,h.nb⟩
end
section
open Go.Conc Go.ConcN Go.RowKit Go.Conc.Lib Go.ConcR.Gen Go.ConcN.Gen Go Sim
open Go.ConcR (KK wgBlock WgAt stA smA rd wr mk Payload Aside2 DC0 ofEvent_cell)
structure sG (cl:Nat) (db mb:Nat->Nat) (es:Nat->Array bI) (ck:Nat->Nat) (w:ae):Prop where
 d:∀i,i<4->w.cell? ⟨cl,1+i*3+1,none⟩=some (.pointer (some ⟨db i,0,none⟩))
 b:∀i,i<4->w.heap[db i]?=some (.cells #[.map (some (mb i))] 142 (0,0))
 m:∀i,i<4->w.heap[mb i]?=some (.map (es i) (ck i))
section
variable {cl:Nat} {db mb:Nat->Nat} {es:Nat->Array bI} {ck:Nat->Nat} {w w1:ae}
theorem sG.to (h:sG cl db mb es ck w) (kc:w1.heap[cl]?=w.heap[cl]?) (kd:∀i,i<4->w1.heap[db i]?=w.heap[db i]?) (km:∀i,i<4->w1.heap[mb i]?=w.heap[mb i]?):sG cl db mb es ck w1:=
 ⟨λi hi=>(xJ (a:=⟨cl,1+i*3+1,none⟩) kc).trans (h.d i hi),λi hi=>(kd i hi).trans (h.b i hi),λi hi=>(km i hi).trans (h.m i hi)⟩
theorem sG.ltc (h:sG cl db mb es ck w):cl<w.heap.size:=by
 have:=h.d 0 (by decide);unfold aH at this;cases e:w.heap[cl]? with
 |none=>simp[e]at this
 |some o=>exact(zi e).1
theorem sG.ltd (h:sG cl db mb es ck w) (i:Nat) (hi:i<4):db i<w.heap.size:=(zi (h.b i hi)).1
theorem sG.ltm (h:sG cl db mb es ck w) (i:Nat) (hi:i<4):mb i<w.heap.size:=(zi (h.m i hi)).1
theorem sG.old (h:sG cl db mb es ck w) (k:∀b,b<w.heap.size->w1.heap[b]?=w.heap[b]?):sG cl db mb es ck w1:=
 h.to (k _ h.ltc) (λi hi=>k _ (h.ltd i hi)) (λi hi=>k _ (h.ltm i hi))
end
section
variable {cl:Nat} {db mb:Nat->Nat} {es:Nat->Array bI} {ck:Nat->Nat} {s t:ByteArray} {m:Nat->Nat} {rows:Nat->List ag} {cb ab tb C Wg:Nat} {F:Blocks} {w w1:ae}
structure FxS (cl:Nat) (db mb:Nat->Nat) (es:Nat->Array bI) (ck:Nat->Nat) (cb ab tb:Nat) (s t:ByteArray) (F:Blocks) (w:ae):Prop where
 clu:sG cl db mb es ck w
 c:w.cell? ⟨cb,0,none⟩=some (.pointer (some ⟨cl,0,none⟩))
 f:w.cell? ⟨ab,0,none⟩=some (.string s)
 t:w.cell? ⟨tb,0,none⟩=some (.string t)
 Fc:F cb
 Ff:F ab
 Ft:F tb
 Fl:F cl
 Fd:∀i,i<4->F (db i)
 Fm:∀i,i<4->F (mb i)
theorem FxS.ext (h:FxS cl db mb es ck cb ab tb s t F w) (e:Ext F w w1):FxS cl db mb es ck cb ab tb s t F w1:=
 ⟨h.clu.to (e.keep _ h.Fl) (λi hi=>e.keep _ (h.Fd i hi)) (λi hi=>e.keep _ (h.Fm i hi)),(xJ (a:=⟨cb,0,none⟩) (e.keep _ h.Fc)).trans h.c,(xJ (a:=⟨ab,0,none⟩) (e.keep _ h.Ff)).trans h.f,(xJ (a:=⟨tb,0,none⟩) (e.keep _ h.Ft)).trans h.t,h.Fc,h.Ff,h.Ft,h.Fl,h.Fd,h.Fm⟩
theorem FxS.sub {F':Blocks} (h:FxS cl db mb es ck cb ab tb s t F w) (k:∀b,F b->F' b):FxS cl db mb es ck cb ab tb s t F' w:=⟨h.clu,h.c,h.f,h.t,k _ h.Fc,k _ h.Ff,k _ h.Ft,k _ h.Fl,λi hi=>k _ (h.Fd i hi),λi hi=>k _ (h.Fm i hi)⟩
theorem TW {Fp:aA->Prop} {ρ:Rel}:∀{l l':List ag},zm Fp ρ l l'->(∀x∈l,∃s,x=.string s)->l'=l
 |_,_,.nil,_=>rfl
 |_,_,.cons a b,h=>by
  obtain⟨s,rfl⟩:=h _ (.head _);cases a;rw[TW b λx hx=>h x (.tail _ hx)]
theorem q9u {Sh:Nat->Prop} {v v':ag} {w:ae} (h:qE (λ_=>True) w v n xs) (hv:VR (λf=>fbP f=true) ρ v v') (hw:WN (XW Sh) ρ w w'):qE (rng ρ) w' v' n xs:=by
 refine⟨h.1,?_⟩;rcases h.2 with⟨rfl,e⟩|⟨g,cap,cur,rfl,_,h2,h3,h4,h5,h6⟩
 ·cases hv;exact .inl ⟨rfl,e⟩
 ·cases hv with
  | @slice b b' o sp n c hr=>
   obtain⟨τ,_,k⟩:=hw;obtain⟨o1,o2,k1,k2,k3⟩:=k.heap hr;have k1:w.heap[g]?=some o1:=k1;rw[h2]at k1;cases k1;cases k3 with
   | @cells c c' e z z' hc hz=>
    have kH:c'=cur:=by
     have:=TW hc h6;exact dx this
    subst kH;have Ba:z'=(0,0):=hz.elim id id;subst Ba;exact .inr ⟨b',cap,c',rfl,⟨_,hr⟩,k2,h3,h4,h5,h6⟩
theorem qwj (hCW:C≠Wg) (jX:∀i,i<4->∀(F:aA->Prop) ρ,EsR F ρ (es i).toList (es i).toList)
  (yH:∀i,i<4->∀wl,wl.heap[db i]?=some (.cells #[.map (some (mb i))] 142 (0,1))->wl.heap[mb i]?=some (.map (es i) (ck i))->bB prog 56 #[.pointer (some ⟨db i,0,none⟩),.string s,.string t] wl fun|.returned v,w'=>qE (λ_=>True) w' v (m i) (rows i)|_,_=>False)
  (i:Nat) (hi:i<4) (F:Blocks) (w:ae) (kb:Nat) (hx:FxS cl db mb es ck cb ab tb s t F w) (hF:FOk F (λ_=>False) w) (hk:F kb) (hc:w.cell? ⟨kb,0,none⟩=some (.int .i64 i)):
  Script prog link.tWg Wg C 4 (λi F v w=>qE F w v (m i) (rows i)) i F (born prog (Am Wg cb kb ab tb C)) w:=by
 refine jak (jd:=λi F v w=>qE F w v (m i) (rows i)) (cl:=cl) (dp:=.pointer (some ⟨db i,0,none⟩)) (s:=.string s) (t:=.string t) hi hCW (λF v w w1 h e=>h.ext e.keep) (λF v w h=>?_) ⟨hc,hx.c,hx.f,hx.t,hx.clu.d i hi,hk,hx.Fc,hx.Ff,hx.Ft,hx.Fl⟩ hF λc cs w1 e=>?_
 ·rcases h.2 with⟨rfl,_⟩|⟨g,cap,cur,rfl,_⟩
  ·exact⟨none,0,0,rfl⟩
  ·exact⟨_,_,_,rfl⟩
 ·have sQ:=hx.ext e;have fA:db i≠mb i:=λe=>by
   have h1:=sQ.clu.b i hi;rw[e,sQ.clu.m i hi]at h1;cases h1
  exact q41 (R:=λv w=>qE (λ_=>True) w v (m i) (rows i)) (jd:=λF v w=>qE F w v (m i) (rows i)) (hF.ext e) (hx.Fd i hi) (hx.Fm i hi) fA (sQ.clu.b i hi) (sQ.clu.m i hi) (jX i hi) (yH i hi) (λv w τ h=>h.ext λ_ _=>rfl) (λρ v v' w w' h1 h2 h3=>q9u h1 h2 h3)
   (λF F' v w h k=>⟨h.1,h.2.imp id λ⟨g,cap,cur,h1,h2,h3⟩=>⟨g,cap,cur,h1,k g h2,h3⟩⟩) c cs
end
noncomputable def P0:Code:=match uG with|.seq a _=>a|_=>.skip
noncomputable def P1:Code:=match uG with|.seq _ (.seq a _)=>a|_=>.skip
noncomputable def P3:Code:=match uG with|.seq _ (.seq _ (.seq a _))=>a|_=>.skip
theorem UU:uG=.seq P0 (.seq P1 (.seq P3 (.seq (.region 4 R4 false) Cb))):=rfl
noncomputable def R5:Array Oper:=match Cb with|.seq (.seq a _) _=>rg a|_=>#[]
theorem q0d:Cb=.seq (.seq (.region 5 R5 false) (.block 0 (.loop sL))) sR:=rfl
theorem Yq:codeOk XG.P XG.P fb true P0=true:=by kernel_rfl
theorem Yp:codeOk XG.P XG.P fb true P1=true:=by kernel_rfl
theorem okP3:codeOk XG.P XG.P fb true P3=true:=by kernel_rfl
def S0 (cl:Nat) (s t:ByteArray) (most:Int) (n:Nat) (CZ TF TD:ag):Array ag:=
 #[.pointer (some ⟨cl,0,none⟩),.string s,.string t,.int .i64 most,.pointer (some ⟨n,0,none⟩),.pointer (some ⟨n+1,0,none⟩),.pointer (some ⟨n+1+1,0,none⟩),ac,.slice none 0 0,.int .i64 0,CZ,ac,ac,ac,ac,ac,TF,TD,ac,ac,ac,ac,ac,ac,ac,ac,ac,ac,ac,ac,ac,ac,ac,ac,ac,ac,ac,ac,ac,ac,ac,ac]
structure HE (h:Array Obj) (w w':ae):Prop where
 heap:w'.heap=h
 os:w'.os=w.os
 output:w'.output=w.output
theorem HE.same {h:Array Obj} {w2:ae} (k:HE h w w1) (s:Same w1 w2):HE h w w2:=⟨s.heap.trans k.heap,s.os.trans k.os,s.output.trans k.output⟩
def H0 (cl:Nat) (s t:ByteArray) (w:ae):Array Obj:=((w.heap.push (.cells #[.pointer (some ⟨cl,0,none⟩)] 40)).push (.cells #[.string s] 9)).push (.cells #[.string t] 9)
def H1 (cl:Nat) (s t:ByteArray) (w:ae):Array Obj:=(H0 cl s t w).push (.cells #[.slice none 0 0,.slice none 0 0,.slice none 0 0,.slice none 0 0] 112)
theorem Kw {t:ByteArray}:(H0 cl s t w).size=w.heap.size+3:=by simp[H0]
theorem q65 {t:ByteArray}:(H1 cl s t w).size=w.heap.size+4:=by simp[H1,Kw]
section
variable {cl:Nat} {s t:ByteArray} {most:Int} {w:ae} {Q:Exit->Act->ae->Prop} {CZ TF TD:ag} {n:Nat}
theorem YI (h:Q .normal ⟨S0 cl s t most w.heap.size ac ac ac,[]⟩ (((w.alloc (.cells #[.pointer (some ⟨cl,0,none⟩)] 40)).alloc (.cells #[.string s] 9)).alloc (.cells #[.string t] 9))):
  Code.wp prog P0 Q ⟨#[.pointer (some ⟨cl,0,none⟩),.string s,.string t,.int .i64 most,ac,ac,ac,ac,ac,ac,ac,ac,ac,ac,ac,ac,ac,ac,ac,ac,ac,ac,ac,ac,ac,ac,ac,ac,ac,ac,ac,ac,ac,ac,ac,ac,ac,ac,ac,ac,ac,ac],[]⟩ w:=by
 unfold P0 uG;unfold S0 at h;simp only[Tryz.f27,dj];go_wp2;exact h
theorem jji (h0:0<=most) (h:Q .normal ⟨S0 cl s t most n ac (.int .i64 most) (.bool false),[]⟩ w):Code.wp prog P1 Q ⟨S0 cl s t most n ac ac ac,[]⟩ w:=by
 unfold P1 uG;unfold S0 at*;simp only[Tryz.f27,dj];have hd:decide (most<0)=false:=xdf (by omega);clear h0;go_wp2;exact h
theorem jjj (h:Q .normal ⟨S0 cl s t most n (.pointer (some ⟨w.heap.size,0,none⟩)) (.int .i64 most) (.bool false),[]⟩ (w.alloc (.cells #[.slice none 0 0,.slice none 0 0,.slice none 0 0,.slice none 0 0] 112))):
  Code.wp prog P3 Q ⟨S0 cl s t most n ac (.int .i64 most) (.bool false),[]⟩ w:=by
 unfold P3 uG;unfold S0 at*;simp only[Tryz.f27,dj];go_wp2;exact h
end
section
variable {N:Blocks} {kv:List ag} {cl:Nat} {s t:ByteArray} {most:Int} {w:ae} {cs eX:List al} {Z:al->ae->Prop}
theorem q0f (h0:0<=most) (h1:most<=9223372036854775807)
  (nx:∀w1,HE (H1 cl s t w) w w1->qf N kv cs (bS.at ⟨S0 cl s t most w.heap.size (.pointer (some ⟨w.heap.size+3,0,none⟩)) (.int .i64 most) (.bool false),[]⟩ (.inRegion R4 [0]::[.code Cb])) w1 eX Z):
  qf N kv cs (ao XG.P fS #[.pointer (some ⟨cl,0,none⟩),.string s,.string t,.int .i64 most] .normal) w eX Z:=by
 have he:ao XG.P fS #[.pointer (some ⟨cl,0,none⟩),.string s,.string t,.int .i64 most] .normal=bS.at ⟨#[.pointer (some ⟨cl,0,none⟩),.string s,.string t,.int .i64 most,ac,ac,ac,ac,ac,ac,ac,ac,ac,ac,ac,ac,ac,ac,ac,ac,ac,ac,ac,ac,ac,ac,ac,ac,ac,ac,ac,ac,ac,ac,ac,ac,ac,ac,ac,ac,ac,ac],[]⟩ [.code uG]:=by
  show ao prog fS _ .normal=_;rw[enter_at _ func27 (show Tryz.f27.body=some uG from rfl)];have hn:Tryz.f27.ntmps=42:=rfl;rw[hn];simp only[bw,da,List.length_nil,aM,Nat.reduceSub,Array.replicate_succ,Array.replicate_zero,List.push_toArray,List.append_toArray,List.nil_append,List.cons_append];rfl
 rw[he,UU];refine qf.seq ?_;refine qf.code rfl (Q:=λe a w'=>e=.normal/\a=⟨S0 cl s t most w.heap.size ac ac ac,[]⟩/\HE (H0 cl s t w) w w') Yq (by rintro e a w ⟨rfl,_⟩;trivial) (λe a w wc s h=>⟨h.1,h.2.1,h.2.2.same s⟩) (λwc hs=>?_) ?_
 ·refine YI ⟨rfl,?_,?_⟩
  ·rw[hs.heap]
  ·refine⟨?_,hs.os,hs.output⟩;show((wc.heap.push _).push _).push _=_;rw[hs.heap];rfl
 rintro _ _ w1 fr ⟨rfl,rfl,mZ⟩ rfl;refine qf.seq ?_;refine qf.code rfl (Q:=λe a w'=>e=.normal/\a=⟨S0 cl s t most w.heap.size ac (.int .i64 most) (.bool false),[]⟩/\HE (H0 cl s t w) w w') Yp (by rintro e a w ⟨rfl,_⟩;trivial) (λe a w wc s h=>⟨h.1,h.2.1,h.2.2.same s⟩) (λwc hs=>?_) ?_
 ·exact jji h0 ⟨rfl,rfl,mZ.same hs⟩
 rintro _ _ w2 fr ⟨rfl,rfl,qI⟩ rfl;refine qf.seq ?_;refine qf.code rfl (Q:=λe a w'=>e=.normal/\a=⟨S0 cl s t most w.heap.size (.pointer (some ⟨w.heap.size+3,0,none⟩)) (.int .i64 most) (.bool false),[]⟩/\HE (H1 cl s t w) w w') okP3 (by rintro e a w ⟨rfl,_⟩;trivial) (λe a w wc s h=>⟨h.1,h.2.1,h.2.2.same s⟩) (λwc hs=>?_) ?_
 ·have hz:wc.heap.size=w.heap.size+3:=by rw[hs.heap,qI.heap,Kw]
  refine jjj ⟨rfl,?_,?_⟩
  ·rw[hz]
  ·refine⟨?_,hs.os.trans qI.os,hs.output.trans qI.output⟩;show wc.heap.push _=_;rw[hs.heap,qI.heap];rfl
 rintro _ _ w3 fr ⟨rfl,rfl,II⟩ rfl;refine qf.seq ?_;refine qf.region ?_;exact nx w3 II
end
theorem N8 {F:aA->Prop} {ρ:Rel}:∀{l:List ag},(∀x∈l,VR F ρ x x)->zm F ρ l l
 |[],_=>.nil
 |_::_,h=>.cons (h _ (.head _)) (N8 λx hx=>h x (.tail _ hx))
theorem jgy {C:Nat} (hS:¬SB C) (hB:C<B):EvZ SB B ⟨.cell ⟨C,i,none⟩,false,false⟩:=
 Fz (F:=λb=>b=C) (O:=λ_=>False) ⟨rfl,rfl,λh=>by cases h⟩ (λb h=>by rw[h];exact hS) (λb h=>by rw[h];exact hB)
section
variable {SB:Blocks} {Z:al->ae->Prop} {k:List Item} {cs:List al} {ρ0:Rel} {w0:ae} {lv:Nat->ag} {m:Nat->Nat} {rows:Nat->List ag} {most:Nat} {Gb:Blocks} {C:Nat} {T:Array ag}
theorem tAll (Jj:T.getD 3 ac=.int .i64 most) (Tf:T.getD 10 ac=.pointer (some ⟨C,0,none⟩)) (fC:T.size=42) (hc:∀i,i<4->w0.cell? ⟨C,i,none⟩=some (lv i)) (hC:C<w0.heap.size) (hCS:¬SB C)
  (hw:WR XG ρ0 w0 w0) (pM:NB w0) (qN:∀b,rng ρ0 b->¬SB b)
  (hG:∀b,Gb b->b<w0.heap.size/\ρ0 b b) (hr:∀i,i<4->qE Gb w0 (lv i) (m i) (rows i)) (CG:∀b,SB b->b<w0.heap.size) (hm:∀i,i<4->m i<=268435456) (Dz:most<=9223372036854775807)
  (hZ:∀T' qX ρ' w',TlS ρ0 w0 SB (lm most m rows 4).1 (lm most m rows 4).2 qX ρ' w'->T'.size=42->T'.getD 8 ac=qX->T'.getD 9 ac=.int .i64 0->∀d,Z {bS.at ⟨T',[]⟩ (.code .ret::k)with mode:=.returning} (w'.at d)):
  BGo cs (bS.at ⟨T,[]⟩ (.code sT::k)) w0 SB Z:=by
 refine BGo.sil jj3 ?_;have QK:TH (T.setIfInBounds 13 (.slice none 0 0)) [(13,.slice none 0 0),(10,.pointer (some ⟨C,0,none⟩)),(3,.int .i64 most)]:=
  TH.set (l:=[(10,.pointer (some ⟨C,0,none⟩)),(3,.int .i64 most)]) ⟨fC,λp hp=>by
   rcases aB.1 hp with rfl|hp
   ·exact Tf
   ·rcases aB.1 hp with rfl|hp
    ·exact Jj
    ·cases hp⟩ _ (by decide) (by simp)
 generalize T.setIfInBounds 13 (.slice none 0 0)=T1 at QK⊢;obtain⟨o,ho,eU,hd,hg⟩:∃o,R13[0]?=some o/\o.op=.load 112 (.tmp 10)/\o.dst=some 25/\o.guard=none:=⟨_,rfl,rfl,rfl,rfl⟩
 have eY:aa o (ax R13 (ah T1 []).tmps)=true:=by unfold aa;rw[hg]
 have Js:(ah T1 []).eval (.tmp 10)=.pointer (some ⟨C,0,none⟩):=QK.2 (10,.pointer (some ⟨C,0,none⟩)) (by simp);have ev:∀d,(ai (ah T1 []).eval o).run prog (w0.at d)=.ok (.value (.agg #[lv 0,lv 1,lv 2,lv 3])) (w0.at d)/\(ai (ah T1 []).eval o).events prog (w0.at d) #[]=#[⟨.cell ⟨C,0,none⟩,false,false⟩,⟨.cell ⟨C,1,none⟩,false,false⟩,⟨.cell ⟨C,2,none⟩,false,false⟩,⟨.cell ⟨C,3,none⟩,false,false⟩]:=λd=>by
  have h0:(w0.at d).cell? ⟨C,0,none⟩=some (lv 0):=hc 0 (by decide);have h1:(w0.at d).cell? ⟨C,1,none⟩=some (lv 1):=hc 1 (by decide);have h2:(w0.at d).cell? ⟨C,2,none⟩=some (lv 2):=hc 2 (by decide);have h3:(w0.at d).cell? ⟨C,3,none⟩=some (lv 3):=hc 3 (by decide);generalize (ah T1 []).eval=e at*;generalize w0.at d=w at*;unfold ai;constructor
  ·simp[go_sem,eU,Js,h0,h1,h2,h3]
  ·simp[go_sem,eU,Js,h0,h1,h2,h3]
 refine BGo.one rfl λd=>⟨_,w0.at d,_,aG ho eY (by decide) (ev d).1,ji _,λe he=>?_,?_⟩
 ·have:=bi he;rw[(ev d).2]at this;simp at this;rcases this with rfl|rfl|rfl|rfl<;>exact jgy hCS hC
 rw[hd];have Ml:TH (T1.setIfInBounds 25 (.agg #[lv 0,lv 1,lv 2,lv 3])) [(25,.agg #[lv 0,lv 1,lv 2,lv 3]),(13,.slice none 0 0),(3,.int .i64 most)]:=QK.set _ (by decide) (by simp);change BGo cs (bS.at ⟨T1.setIfInBounds 25 (.agg #[lv 0,lv 1,lv 2,lv 3]),[]⟩ (.inRegion R13 [1]::_)) _ _ _;generalize T1.setIfInBounds 25 (.agg #[lv 0,lv 1,lv 2,lv 3])=T2 at Ml⊢;obtain⟨o1,xP,jS,hd1,kV⟩:∃o,R13[1]?=some o/\o.op=.move (.const (.int .i64 0))/\o.dst=some 26/\o.guard=none:=⟨_,rfl,rfl,rfl,rfl⟩
 refine BGo.val Ml (.int .i64 ((0:Nat):Int)) xP hd1 kV (by decide) (l':=[(25,.agg #[lv 0,lv 1,lv 2,lv 3]),(13,.slice none 0 0),(3,.int .i64 most)]) (by simp) (λe he hc w=>?_) λT3 Jj=>?_
 ·have bc:=hc (.int .i64 0);unfold ai;constructor
  ·simp[go_sem,jS,bc]
  ·simp[go_sem,jS,bc]
 refine BGo.sil (Sil.ctl (λw1=>aq) (Sil.ctl (λw1=>bL) (Sil.ctl (λw1=>stepG_loop) (.refl _ _)))) ?_;have Ei:TlS ρ0 w0 SB (lm most m rows 0).1 (lm most m rows 0).2 (.slice none 0 0) ρ0 (w0.at d):=
  TlS.at ⟨Rel.le_refl ρ0,hw,.jv _ _,pM,bN _ _ _ _,λ_ _=>rfl,ji _,qN,rfl,rfl⟩ d
 refine jjz (fs:=#[lv 0,lv 1,lv 2,lv 3]) (lv:=lv) (λi hi=>?_) hG hr CG hm Dz (λT' qX ρ' w' h' wU=>?_) 4 0 rfl T3 _ ρ0 _ Ei (Jj.sub (by simp))
 ·match i,hi with
  |0,_=>rfl
  |1,_=>rfl
  |2,_=>rfl
  |3,_=>rfl
 ·refine BGo.sil (tEnd wU.1 (wU.2 (13,qX) (by simp))) (BGo.done λd=>?_);refine hZ _ qX ρ' w' h' (by simp[wU.1]) ?_ ?_ d
  ·rw[qz (by decide)];exact vw (by simp[wU.1])
  ·exact vw (by simp[wU.1])
end
theorem UX {T:Array ag}:(results Tryz.f27 T).runT prog w #[]=(.ok (.tuple #[T.getD 8 ac,T.getD 9 ac]) w,#[]):=by
 have e:Tryz.f27.results=#[.tmp 8,.tmp 9]:=rfl;simp[results,e,go_sem]
section
variable {N:Blocks} {kv:List ag} {cl:Nat} {db mb:Nat->Nat} {es:Nat->Array bI} {ck:Nat->Nat} {s t:ByteArray} {m:Nat->Nat} {rows:Nat->List ag} {w:ae} {most:Nat}
theorem Ho {Fp:aA->Prop} {T:Array ag} {b o:Nat} (h:zm Fp ρ T.toList T.toList) (e:T.getD j ac=.pointer (some ⟨b,o,none⟩)):ρ b b:=by
 have:=zm.Dt h j;rw[e]at this;cases this with
 |ptr h=>exact h
theorem qwk (LH:sG cl db mb es ck w) (jX:∀i,i<4->∀(F:aA->Prop) ρ,EsR F ρ (es i).toList (es i).toList)
  (yH:∀i,i<4->∀wl,wl.heap[db i]?=some (.cells #[.map (some (mb i))] 142 (0,1))->wl.heap[mb i]?=some (.map (es i) (ck i))->bB prog 56 #[.pointer (some ⟨db i,0,none⟩),.string s,.string t] wl fun|.returned v,w'=>qE (λ_=>True) w' v (m i) (rows i)|_,_=>False)
  (hm:∀i,i<4->m i<=268435456) (Dz:most<=9223372036854775807) (hN:∀b,N b->b<w.heap.size):
  oz N kv fS #[.pointer (some ⟨cl,0,none⟩),.string s,.string t,.int .i64 most] w λv w'=>
   ∃ov,v=.tuple #[ov,.int .i64 0]/\w'.ownsRow w.heap.size 74 2 ov (lm most m rows 4).1 (lm most m rows 4).2/\(∀b,b<w.heap.size->w'.heap[b]?=w.heap[b]?)/\w.heap.size<=w'.heap.size/\w'.os=w.os/\w'.output=w.output:=by
 intro c cs;refine q0f (most:=(most:Int)) (by omega) (by omega) λw3 II=>?_;intro wc hs gs sl t0 SB ρ' q S9 hNS hK0;have iL:=S9.diag;have hK:∀v∈kv,VR XG.F (dg ρ') v v:=λv hv=>(hK0 v hv).right;have Zt:∀a b,dg ρ' a b->a=b:=λa b h=>h.1;generalize dg ρ'=ρ at iL Zt hK;have Ga:wc.heap=H1 cl s t w:=hs.heap.trans II.heap;have Qh:wc.heap.size=w.heap.size+4:=by rw[Ga,q65]
 have old:∀b,b<w.heap.size->wc.heap[b]?=w.heap[b]?:=λb hb=>by
  rw[Ga];unfold H1 H0;rw[ak,if_neg (by simp;omega),ak,if_neg (by simp;omega),ak,if_neg (by simp;omega),ak,if_neg (by omega)]
 have LK:sG cl db mb es ck wc:=LH.old old;have pR:wc.heap[w.heap.size]?=some (.cells #[.pointer (some ⟨cl,0,none⟩)] 40):=by
  rw[Ga];unfold H1 H0;rw[ak,if_neg (by simp;omega),ak,if_neg (by simp;omega),ak,if_neg (by simp),ak,if_pos rfl]
 have iw:wc.heap[w.heap.size+1]?=some (.cells #[.string s] 9):=by
  rw[Ga];unfold H1 H0;rw[ak,if_neg (by simp),ak,if_neg (by simp),ak,if_pos (by simp)]
 have htb:wc.heap[w.heap.size+1+1]?=some (.cells #[.string t] 9):=by
  rw[Ga];unfold H1 H0;rw[ak,if_neg (by simp),ak,if_pos (by simp)]
 have hCb:wc.heap[w.heap.size+3]?=some (.cells #[.slice none 0 0,.slice none 0 0,.slice none 0 0,.slice none 0 0] 112):=by
  rw[Ga];unfold H1;rw[ak,if_pos (by rw[Kw])]
 -- what is reached
 have tm:zm XG.F ρ (S0 cl s t most w.heap.size (.pointer (some ⟨w.heap.size+3,0,none⟩)) (.int .i64 most) (.bool false)).toList (S0 cl s t most w.heap.size (.pointer (some ⟨w.heap.size+3,0,none⟩)) (.int .i64 most) (.bool false)).toList:=(iL.fr rfl).tmps;have TP:ρ cl cl:=Ho (j:=0) tm rfl;have rcb:ρ w.heap.size w.heap.size:=Ho (j:=4) tm rfl;have rab:ρ (w.heap.size+1) (w.heap.size+1):=Ho (j:=5) tm rfl;have rtb:ρ (w.heap.size+1+1) (w.heap.size+1+1):=Ho (j:=6) tm rfl;have rC:ρ (w.heap.size+3) (w.heap.size+3):=Ho (j:=10) tm rfl;have TN:∀i,i<4->ρ (db i) (db i):=λi hi=>by
  obtain⟨v',h1,h2⟩:=iL.wr.cell (a:=⟨cl,1+i*3+1,none⟩) (a':=⟨cl,1+i*3+1,none⟩) ⟨TP,rfl,rfl⟩ (LK.d i hi);rw[LK.d i hi]at h1;cases h1;cases h2 with|ptr h=>exact h
 have rmb:∀i,i<4->ρ (mb i) (mb i):=λi hi=>by
  have iD:wc.cell? ⟨db i,0,none⟩=some (.map (some (mb i))):=by simp[aH,LK.b i hi]
  obtain⟨v',h1,h2⟩:=iL.wr.cell (a:=⟨db i,0,none⟩) (a':=⟨db i,0,none⟩) ⟨TN i hi,rfl,rfl⟩ iD;rw[iD]at h1;cases h1;cases h2 with|map h=>exact h
 have E9:∀b,rng ρ b->b<wc.heap.size:=λb ⟨a,h⟩=>(iL.wr.bound h).2
 -- the group
 obtain⟨jZ,d1,iZ,t1,q1,h1,z1,g1,L1,p1,ZB,p9⟩:=qvg (SB:=SB) (sl:=sl) iL.g0 iL.leavers iL.past;rw[Qh]at ZB p9
 -- to the Tx head
 let Ta:Array ag:=(S0 cl s t most w.heap.size (.pointer (some ⟨w.heap.size+3,0,none⟩)) (.int .i64 most) (.bool false)).setIfInBounds 11 (.pointer (some ⟨w.heap.size+4,0,none⟩))
 have g1:jZ[0]?=some (G (bS.at ⟨Ta,[]⟩ (.inRegion R4 []::[.code Cb])) (c::cs)):=by rw[Qh]at g1;exact g1
 let w4:ae:=zC (wc.at d1)
 have LJ:∀b,b<wc.heap.size->w4.heap[b]?=wc.heap[b]?:=λb hb=>by
  show(wc.heap.push _)[b]?=_;rw[ak,if_neg (by omega)]
 have hz4:w4.heap.size=w.heap.size+5:=by
  show(wc.heap.push _).size=_;rw[Array.size_push,Qh]
 have hz4':(zC (wc.at d1)).heap.size=w.heap.size+5:=hz4
 let F:Blocks:=λb=>rng ρ b/\b≠w.heap.size+3
 have Ag:FOk F (λ_=>False) w4:=⟨λb hb=>by have:=E9 b hb.1;omega,λ_ h=>h.elim⟩
 have eH:=LH.ltc;have Px:∀{b:Nat} {v:ag} {ty:cU},b<wc.heap.size->wc.heap[b]?=some (.cells #[v] ty)->w4.cell? ⟨b,0,none⟩=some v:=λ{b v ty} hb e=>by
  simp[aH,LJ b hb,e]
 have hFx:FxS cl db mb es ck w.heap.size (w.heap.size+1) (w.heap.size+1+1) s t F w4:=
  ⟨LK.old LJ,Px (by omega) pR,Px (by omega) iw,Px (by omega) htb,⟨⟨_,rcb⟩,by omega⟩,⟨⟨_,rab⟩,by omega⟩,⟨⟨_,rtb⟩,by omega⟩,⟨⟨_,TP⟩,by omega⟩,λi hi=>⟨⟨_,TN i hi⟩,by have:=LH.ltd i hi;omega⟩,λi hi=>⟨⟨_,rmb i hi⟩,by have:=LH.ltm i hi;omega⟩⟩
 have hnW:¬F (w.heap.size+4):=λh=>by have:=E9 _ h.1;omega
 have hH:ScH (.int .i64 most) w.heap.size (w.heap.size+1) (w.heap.size+1+1) (w.heap.size+3) (w.heap.size+4) 0 (Ta.setIfInBounds 18 (.int .i64 ((0:Nat):Int))):=⟨rfl,rfl,rfl,rfl,rfl,rfl,rfl,rfl⟩
 have Jh:WG prog true (Scr prog link.tWg (w.heap.size+4) (w.heap.size+3) 4 (λi F v w=>qE F w v (m i) (rows i)) (KS (.int .i64 most) w.heap.size (w.heap.size+1) (w.heap.size+1+1) (w.heap.size+3) (w.heap.size+4) [] (c::cs)) 4) F (λ_=>False) (G (bS.at ⟨Ta,[]⟩ (.inRegion R4 []::[.code Cb])) (c::cs)) w4:=by
  refine WG.ctl rfl Ag (λw1=>aq) ?_;rw[q0d];refine WG.ctl rfl Ag (λw1=>aC) ?_;refine WG.ctl rfl Ag (λw1=>aC) ?_;refine WG.ctl rfl Ag (λw1=>az) ?_;change WG _ _ _ _ _ (G (bS.at ⟨Ta,[]⟩ (.inRegion R5 [0]::_)) (c::cs)) w4;obtain⟨o,ho,eU,hd,hg⟩:∃o,R5[0]?=some o/\o.op=.move (.const (.int .i64 0))/\o.dst=some 18/\o.guard=none:=⟨_,rfl,rfl,rfl,rfl⟩
  have eY:aa o (ax R5 (ah Ta []).tmps)=true:=by unfold aa;rw[hg]
  refine WG.value (.int .i64 ((0:Nat):Int)) Ag ho eY (by decide) (λw1 _=>?_) ?_
  ·have bc:(ah Ta []).eval (.const (.int .i64 0))=.int .i64 0:=rfl;generalize (ah Ta []).eval=e at*;unfold ai;constructor
   ·simp[go_sem,eU,bc]
   ·simp[go_sem,eU,bc]
  rw[hd];change WG _ _ _ _ _ (G (bS.at ⟨Ta.setIfInBounds 18 (.int .i64 ((0:Nat):Int)),[]⟩ (.inRegion R5 []::_)) (c::cs)) w4;refine WG.ctl rfl Ag (λw1=>aq) ?_;refine WG.ctl rfl Ag (λw1=>bL) ?_;refine WG.ctl rfl Ag (λw1=>stepG_loop) ?_;exact starter (Fx:=FxS cl db mb es ck w.heap.size (w.heap.size+1) (w.heap.size+1+1) s t) (λF w w1 h e=>h.ext e) (λF F' w h k=>h.sub k)
   (λi hi F w kb hx hF hk hc=>qwj (m:=m) (rows:=rows) (by omega) jX yH i hi F w kb hx hF hk hc) (λF O w T hT hF _ _=>jju hT hF) 4 0 rfl _ F (λ_=>False) w4 hH Ag hFx hnW (by omega)
 have nK:PayAt (w.heap.size+3) 4 w4:=⟨_,(LJ _ (by omega)).trans hCb,rfl⟩
 have Fh:=iL.foot;obtain⟨N3,Q7,a3,w5,JY,t3,D,FM,q3,h3,hJ⟩:=phase (P:=prog) (ty:=link.tWg) (Wg:=w.heap.size+4) (C:=w.heap.size+3) (n:=4) (SB:=SB) (jd:=λi F v w=>qE F w v (m i) (rows i)) (L0:=w.heap.size+3) (sl:=iZ) (λi F v w w1 h e=>h.ext e.keep) (by decide) g1 L1 p1 p9 Jh ZB nK
  (λb hb=>⟨by have:=E9 b hb.1;omega,by have:=E9 b hb.1;omega,hb.2,Fh.apart b hb.1⟩) (λ_ h=>h.elim) (by omega) (by omega) (λb hb=>by have:=Fh.low b hb;omega) (by omega) (λh=>by have:=Fh.low _ h;omega) (λh=>Fh.apart _ ⟨_,rC⟩ h) (by omega) (ji _) (λ_ h=>h.elim)
 obtain⟨N4,ZK,T,d4,TL,t4,q4,h4,z4,g4,hT,L4,p4⟩:=qui (sl:=JY) hJ
 -- the tail
 let w6:ae:=w5.at d4
 have Pv:∀b,b<w.heap.size+3->w6.heap[b]?=wc.heap[b]?:=λb hb=>(hJ.kept.keep b hb).trans (LJ b (by omega))
 let Gb:Blocks:=λb=>∃i n cap,i<4/\(D i).val=.slice (some ⟨b,0,none⟩) n cap
 let ρ0:Rel:=λa b=>ρ a b\/(a=b/\Gb b)
 have Y1:ρ.le ρ0:=λ_ _ h=>.inl h;have Ij:∀a b,ρ0 a b->a=b:=λa b h=>h.elim (Zt a b) (·.1);have gY:∀i,i<4->qE Gb w6 (D i).val (m i) (rows i):=λi hi=>by
  have h:=(hJ.res i hi).1;refine⟨h.1,h.2.imp id ?_⟩;rintro⟨g,cap,cur,k1,k2,k3⟩;exact⟨g,cap,cur,k1,⟨i,_,_,hi,k1⟩,k3⟩
 have QV:∀b,Gb b->∃cur,w6.heap[b]?=some (.cells cur 74 (0,0))/\(∀x∈cur.toList,∃s,x=.string s)/\b<w6.heap.size/\b≠w.heap.size+4/\¬SB b:=by
  rintro b ⟨i,n,cap,hi,e⟩;have h:=(hJ.res i hi).1;rcases h.2 with⟨e2,_⟩|⟨g,Tq,cur,e2,k2,k3,_,_,_,k6⟩
  ·rw[e]at e2;cases e2
  ·rw[e]at e2;cases e2;have:=hJ.sep.wF i hi b k2;exact⟨cur,k3,k6,this.1,this.2.1,this.2.2.2⟩
 have iD:∀i,i<4->w6.cell? ⟨w.heap.size+3,i,none⟩=some (D i).val:=λi hi=>(hJ.res i hi).2;obtain⟨pc,IQ,hps⟩:=hJ.pay;have IQ:w6.heap[w.heap.size+3]?=some (.cells pc Payload.ety):=IQ;have tX:∀i,i<4->VR XG.F ρ0 (D i).val (D i).val:=λi hi=>by
  rcases(gY i hi).2 with⟨e,_⟩|⟨g,cap,cur,e,k1,_⟩
  ·rw[e];exact .jv _ _
  ·rw[e];exact .slice (.inr ⟨rfl,k1⟩)
 have qY:WR XG ρ0 w6 w6:=by
  refine⟨λh1 h2=>(Ij _ _ h1).symm.trans (Ij _ _ h2),λh1 h2=>(Ij _ _ h1).trans (Ij _ _ h2).symm,λ{a b} iw=>?_,λ_ _=>rfl,λa h=>h.elim⟩;obtain rfl:=Ij a b iw;rcases iw with iw|⟨_,hb⟩
  ·by_cases e:a=w.heap.size+3
   ·subst e;refine⟨_,_,IQ,IQ,.cells (N8 λx hx=>?_) (.inl rfl)⟩;obtain⟨j,hj,e⟩:=List.mem_iff_getElem.1 hx;have qK:j<4:=by simpa[hps]using hj
    have:=iD j qK;simp only[aH,IQ]at this;have nV:pc[j]?=some x:=by rw[<-e];simp
    rw[nV]at this;cases this;exact tX j qK
   ·obtain⟨o,o',k1,k2,k3⟩:=iL.wr.heap iw;have JM:a<w.heap.size+3:=by have:=E9 a ⟨_,iw⟩;omega
    exact⟨o,o',(Pv a JM).trans k1,(Pv a JM).trans k2,k3.mono Y1⟩
  ·obtain⟨cur,k1,k2,_⟩:=QV a hb;refine⟨_,_,k1,k1,.cells (N8 λx hx=>?_) (.inl rfl)⟩;obtain⟨s,rfl⟩:=k2 x hx;exact .string s
 have hz6:w.heap.size+5<=w6.heap.size:=by
  have:=hJ.sep.lW;show _<=w5.heap.size;omega
 have Sk:NB w4:=NB.push (w:=wc.at d1) (λ_ _ e=>by cases e) iL.nb;have qN:∀b,rng ρ0 b->¬(SB b\/b=w.heap.size+4):=by
  rintro b ⟨a,iw|⟨_,hb⟩⟩ hs
  ·rcases hs with hs|hs
   ·exact Fh.apart b ⟨a,iw⟩ hs
   ·have:=E9 b ⟨a,iw⟩;omega
  ·obtain⟨_,_,_,_,k1,k2⟩:=QV b hb;rcases hs with hs|hs
   ·exact k2 hs
   ·exact k1 hs
 have CG:∀b,(SB b\/b=w.heap.size+4)->b<w6.heap.size:=by
  rintro b (hb|hb)
  ·have:=Fh.low b hb;omega
  ·omega
 have Tc:=tAll (SB:=λb=>SB b\/b=w.heap.size+4) (k:=[]) (cs:=c::cs) (ρ0:=ρ0) (w0:=w6) (lv:=λi=>(D i).val) (m:=m) (rows:=rows) (most:=most) (Gb:=Gb) (C:=w.heap.size+3) (T:=T.setIfInBounds 24 (.tuple #[]))
  (Z:=λfr w7=>∃ov ρ7,TlS ρ0 w6 (λb=>SB b\/b=w.heap.size+4) (lm most m rows 4).1 (lm most m rows 4).2 ov ρ7 w7/\Leaves fr (.tuple #[ov,.int .i64 0]))
  ((qz (by decide)).trans hT.t3) ((qz (by decide)).trans hT.t10) (by simp[hT.size]) iD (by omega) (λh=>qN _ ⟨_,.inl rC⟩ h) qY (hJ.kept.nb Sk) qN (λb hb=>⟨(let⟨_,_,_,k,_⟩:=QV b hb;k),.inr ⟨rfl,hb⟩⟩) gY CG hm Dz
  (λT' qX ρ7 w7 h7 hs7 h8 h9 d=>⟨qX,ρ7,h7.at d,⟨rfl,rfl,rfl,_,func27,λw=>by
   have:=UX (w:=w) (T:=T');rw[h8,h9]at this
   exact this⟩⟩)
 obtain⟨gs7,fr7,w7,sl7,t7,q7,h7,z7,⟨ov,ρ7,xY,tF⟩,g7,L7,p7⟩:=Tc d4 ZK TL t4 q4 g4 L4 p4;have Sb:Sil prog fr7 (c::cs) (c.finish (.tuple #[ov,.int .i64 0])) cs:=.step (λw=>Lp tF) (.refl _ _);obtain⟨gs8,d8,sl8,t8,q8,h8,z8,g8,L8,p8⟩:=Sb.runs (sl:=sl7) g7 L7 p7;have hle:ρ.le ρ7:=Rel.le_trans Y1 xY.le;have YC:=xY.at d8;refine⟨gs8,_,w7.at d8,sl8,t8,_,ρ7,q8,?_,⟨_,rfl,ov,rfl,?_,λb hb=>?_,?_⟩,⟨g8,L8,p8,⟨xY.apart,λb hb=>xll (CG b hb) xY.size,λb ⟨a,h,_⟩=>⟨a,h⟩,λb ⟨a,h⟩=>(YC.wr.bound h).2⟩,?_,λc' jL hb=>(iL.cs c' (.tail _ jL) hb).mono hle,YC.wr,xY.nb⟩,λb hb hs=>hs.elim (hNS b hb) λe=>by have:=hN b hb;omega,λv hv=>(hK v hv).mono hle⟩
 ·exact(h1.trans ⟨N3,h3⟩).trans ((show Runs prog Q7 w5 JY t3 ZK (w5.at d4) TL t4 from⟨N4,h4⟩).trans (h7.trans h8))
 ·have:=xY.own;refine⟨this.1,this.2.imp id ?_⟩;rintro⟨g,cap,cur,k1,k2,k3⟩;exact⟨g,cap,cur,k1,by omega,k3⟩
 ·exact(xY.keep b (by omega)).trans ((Pv b (by omega)).trans (old b hb))
 ·refine⟨?_,(xY.os.trans hJ.kept.os).trans (hs.os.trans II.os),(xY.output.trans hJ.kept.output).trans (hs.output.trans II.output)⟩;have:=xY.size;show _<=w7.heap.size;omega
 ·intro hb;exact FSt.finish ((iL.cs c (.head _) (by rw[<-Frame.Le c];exact hb)).mono hle) (.tuple (.cons xY.vr (.cons (.int _ _) .nil)))
end
end
section
open Go Go.Conc Go.ConcN Sim
theorem qwn {v:ag} (h:Leaves fr v) (hi:XG.P.inits.idxOf? fr.fn=none):aP XG.P true (G fr []) w=.ended (.done v) w #[]:=by
 obtain⟨hm,hd,hk,fn,hf,hr⟩:=h;rw[yj _ _ _ _ _ hm];obtain⟨Gq,J3,YF,G5,GA,GK,TM⟩:=fr;obtain rfl:G5=[]:=hd;obtain rfl:GA=.returning:=hm;obtain rfl:GK=.normal:=hk;have hf:XG.P.funcs[Gq]?=some fn:=hf;have hi:XG.P.inits.idxOf? Gq=none:=hi;have hr:(results fn J3).runT XG.P w #[]=(.ok v w,#[]):=hr w;unfold unwind;dsimp only;rw[hf];dsimp only;rw[hr];simp[doReturn,hi,GStep.after,seen]
theorem qzx (W:ae):xw (λ_=>False) W 1 #[]:=
 ⟨⟨0,λsaid=>by rintro⟨i,j,_,⟨a,b,ha,_⟩,_⟩;simp[Trace.act?]at ha,λi a ha=>by simp[touchAt,Trace.act?]at ha,λi g hg=>by simp[Trace.g?]at hg,rfl,by simp⟩,by simp,λi a ha=>by simp[touchAt,Trace.act?]at ha,
  λi op x hi=>by simp at hi,by simp⟩
theorem q8d {W:ae} {Post:ag->ae->Prop} {N:Blocks} {kv:List ag} (h:qf N kv [] fr W [] (Ret f R)) (tJ:FSb ρ fr) (qY:WR XG ρ W W) (iF:∀v∈kv,VR XG.F ρ v v) (hi:XG.P.inits.idxOf? f=none) (hp:∀v w wc,Same w wc->R v w->Post v wc):
  ∃M last o w' t',runNT XG.P (M+1) (solo (G fr []) W) #[]=(.ended o w',t')/\runN XG.P M (solo (G fr []) W)=.next last/\step XG.P last=.ended o w'/\Conc.Good XG.P Post last o w' t':=by
 have iL:Co XG fb blG (λ_=>False) ρ #[G fr []] fr [] W #[] (λ_=>0):=
  ⟨rfl,leavers_one _ _,qzx W,⟨λ_ _ h=>h,λ_ h=>h.elim,λb ⟨a,h,_⟩=>⟨a,h⟩,λb ⟨a,h⟩=>(qY.bound h).2⟩,tJ,(λc hc=>by cases hc),qY,trivial⟩
 obtain⟨fE,fw,w',sl',t',Rk,ρ',q',⟨N,hr⟩,⟨uO,v,hl,hv,hR⟩,hc,_,_⟩:=h W (Same.refl _) _ none _ _ _ _ iL (λ_ _ h=>h) iF;obtain⟨B,hP⟩:=hc.past.past;obtain⟨N2,last,o,w2,t2,k1,k2,k3,k4⟩:=beside_ends (P:=XG.P) (D:=λ_ _ _=>False) (Post:=Post) (n:=0) (w:=w') (sl:=sl') (λ_ _ _ h=>h.elim) hc.g0 hc.leavers hP (λw1 mZ=>by
  obtain⟨d,e⟩:=mZ;subst e
  exact⟨rfl,v,#[],qwn hl (by rw[uO];exact hi),by simp,hp v _ _ (Same.at w' d) hR⟩)
 have fu:runNT XG.P (N+(N2+1)) (solo (G fr []) W) #[]=(.ended o w2,t2):=runNT_trans N hr k1;have e1:runN XG.P N (solo (G fr []) W)=.next (crowd fE w' sl'):=by
  rw[<-runNT_fst _ _ _ #[]];exact congrArg Prod.fst hr
 refine⟨N+N2,last,o,w2,t2,fu,?_,k3,k4⟩;have:runNT XG.P (N+N2) (solo (G fr []) W) #[]=runNT XG.P N2 (crowd fE w' sl') t':=runNT_trans N hr rfl;rw[<-runNT_fst _ _ _ #[],this,runNT_fst];exact k2
theorem qwg {P:aF} {v:ag} {a:Addr} (h:w.cell? a=some v) (es:Array dG):(Go.load a).runT P w es=(.ok v w,es.push ⟨.cell a,false,false⟩):=by
 unfold Go.load;simp only[dy,h];rfl
theorem Xh {P:aF} {w:ae} {a:Addr}:∀(l:List ag) (i:Nat) (acc:Array ag) (es:Array dG),(∀j v,l[j]?=some v->w.cell? (a.add (i+j))=some v)->
  ∃gD,(loadCellsFrom a i l.length acc).runT P w es=(.ok (acc++l.toArray) w,es++gD)/\∀e∈gD,∃j,e=⟨.cell (a.add j),false,false⟩
 |[],i,acc,es,_=>⟨#[],by simp[loadCellsFrom,Pure.pure,dy],by simp⟩
 |v::l,i,acc,es,h=>by
  obtain⟨gD,h1,h2⟩:=Xh (P:=P) l (i+1) (acc.push v) (es.push ⟨.cell (a.add i),false,false⟩) λj x hj=>by
   have:=h (j+1) x (by simpa using hj);rwa [show i+(j+1)=i+1+j by omega]at this
  refine⟨#[⟨.cell (a.add i),false,false⟩]++gD,?_,λe he=>?_⟩
  ·have h0:=h 0 v rfl;rw[Nat.add_zero]at h0;show((Go.load (a.add i)).bind λv=>loadCellsFrom a (i+1) l.length (acc.push v)).runT P w es=_;rw[bz,qwg h0];simp only[];rw[h1];have e1:acc.push v++l.toArray=acc++(v::l).toArray:=by apply dx;simp
   have e2:es.push (⟨.cell (a.add i),false,false⟩:dG)++gD=es++(#[⟨.cell (a.add i),false,false⟩]++gD):=by apply dx;simp
   rw[e1,e2]
  ·rcases Array.mem_append.1 he with he|he
   ·simp at he;exact⟨i,he⟩
   ·exact h2 e he
theorem WY {P:aF} {a:Addr} (l:List ag) (hA:∀es,(isAgg ty).runT P w es=(.ok true w,es)) (hS:∀es,(sizeOf ty).runT P w es=(.ok l.length w,es)) (hc:∀j v,l[j]?=some v->w.cell? (a.add j)=some v):
  ∃gD,(Instr.loadAt ty (.pointer (some a))).runT P w #[]=(.ok (.agg l.toArray) w,gD)/\∀e∈gD,∃j,e=⟨.cell (a.add j),false,false⟩:=by
 obtain⟨gD,h1,h2⟩:=Xh (P:=P) (w:=w) (a:=a) l 0 #[] #[] λj v hj=>by rw[bG];exact hc j v hj
 refine⟨gD,?_,h2⟩;show((isAgg ty).bind λc=>if c=true then(sizeOf ty).bind λn=>(loadCellsFrom a 0 n #[]).bind λcs=>Sem.pure (.agg cs)else Go.load a).runT P w #[]=_;rw[bz,hA];simp only[if_true];rw[bz,hS];simp only[];rw[bz,h1];simp[dy]
section
variable {N:Blocks} {kv:List ag} {cs eX:List al} {w:ae} {Z:al->ae->Prop} {b:al} {a:Act} {k:List Item}
theorem qf.blind (gB:blG b.fn=true) (hk:b.kind≠.early) (ho:ops[i]?=some o) (fH:kE XG.P XG.P' fb true o=true) (hw:aa o (ax ops a.tmps)=true)
  (gZ:ai a.eval o=ai e o) (he:∀ρ,(∀v∈kv,VR XG.F ρ v v)->EvR XG.F fb ρ e e) (hr:∀wc,Same w wc->∃v w1,(ai e o).run XG.P wc=.ok (.value v) w1/\R v w1/\wc.heap.size<=w1.heap.size)
  (n:∀v w1,R v w1->qf N (v::kv) cs (b.at (a.put o.dst v) (.inRegion ops td::k)) w1 eX Z):qf N kv cs (b.at a (.inRegion ops (i::td)::k)) w eX Z:=λwc s gs sl t SB ρ q hc hN hK=>by
 have key:∀d,∃v w1,(ai e o).run XG.P (wc.at d)=.ok (.value v) w1/\R v w1/\wc.heap.size<=w1.heap.size:=λd=>hr (wc.at d) (s.trans (Same.at wc d));have qY:∀d,WR XG ρ (wc.at d) (wc.at d):=λd=>⟨hc.wr.fn,hc.wr.inj,hc.wr.heap,λ_ _=>rfl,hc.wr.sh⟩
 have hst:∀d v w1,(ai e o).run XG.P (wc.at d)=.ok (.value v) w1->aP XG.P true (G (b.at a (.inRegion ops (i::td)::k)) cs) (wc.at d)=.go (G (b.at (a.put o.dst v) (.inRegion ops td::k)) cs) w1 _:=λd v w1 h=>
  aG (P:=XG.P) (main:=true) (b:=b) (k:=k) (cs:=cs) (rest:=td) (a:=a) (w:=wc.at d) ho hw hk (by rw[gZ];exact h)
 have step:∀d v w1,(ai e o).run XG.P (wc.at d)=.ok (.value v) w1->wc.heap.size<=w1.heap.size->
   ∃ρ1,ρ.le ρ1/\WR XG ρ1 w1 w1/\VR XG.F ρ1 v v/\oO (rng ρ) (own XG ρ) (wc.at d) (rng ρ1) (own XG ρ1) w1 ((ai e o).events XG.P (wc.at d) #[]):=λd v w1 h _=>
  let⟨ρ1,m1,m2,m3,m4,_⟩:=NN rfl yX fH (he ρ hK) (qY d) h
  ⟨ρ1,m1,m2,m3,m4⟩
 have qN:∀(d:Nat) (v:ag) (w1:ae) (ρ1:Rel) (es:Array dG),oO (rng ρ) (own XG ρ) (wc.at d) (rng ρ1) (own XG ρ1) w1 es->∀b,rng ρ1 b->¬SB b:=λd v w1 ρ1 es m4 b hb hs=>by
  rcases m4.new b hb with h1|h1
  ·exact hc.foot.apart b h1 hs
  ·have h2:wc.heap.size<=b:=h1;have:=hc.foot.low b hs;omega
 obtain⟨M,jZ,a1,d,w1,es,iZ,t1,q1,fu,hgo,hz,nJ,nW,pU,_⟩:=zG (P:=XG.P) (SB:=SB) (sl:=sl) hc.g0 rfl hc.leavers hc.past λd=>by
  obtain⟨v,w1,h1,_,h3⟩:=key d;obtain⟨ρ1,m1,m2,m3,m4⟩:=step d v w1 h1 h3;refine⟨_,w1,_,hst d v w1 h1,h3,λev iG=>?_⟩;have:=bi iG;rw[gZ]at this;exact Fz (m4.ev ev this) (qN d v w1 ρ1 _ m4) m4.low
 obtain⟨v,gy,h1,h2,h3⟩:=key d;obtain⟨ρ1,m1,m2,m3,m4⟩:=step d v gy h1 h3;rw[hst d v gy h1]at hgo;injection hgo with e1 e2 e3;subst e1;subst e2;obtain⟨oI,iB,w2,nY,t2,tV,ρ2,q2,k1,k2,k3,k4,k5⟩:=n v gy h2 gy (Same.refl _) jZ iZ t1 SB ρ1 q1
  ⟨nJ,nW,pU,⟨qN d v gy ρ1 _ m4,λb hb=>xll (hc.foot.low b hb) h3,m4.own,m4.low⟩,λhb=>(by rw[show(b.at (a.put o.dst v) (.inRegion ops td::k)).fn=b.fn from rfl,gB]at hb;cases hb),λc kH hb=>(hc.cs c kH hb).mono m1,m2,trivial⟩ hN
  (λx hx=>by
   rcases aB.1 hx with rfl|hx
   ·exact m3
   ·exact(hK x hx).mono m1)
 exact⟨oI,iB,w2,nY,t2,tV,ρ2,q2,Runs.trans ⟨M,fu⟩ k1,k2,k3,k4,λx hx=>k5 x (.tail _ hx)⟩
theorem qf.look {x:Nat} {b0 o0:Nat} {l:List ag} (gB:blG b.fn=true) (hk:b.kind≠.early) (ho:ops[i]?=some o) (eU:o.op=.load ty (.tmp x)) (hw:aa o (ax ops a.tmps)=true)
  (hx:a.eval (.tmp x)=.pointer (some ⟨b0,o0,none⟩)) (hNb:N b0) (hA:∀w es,(isAgg ty).runT XG.P w es=(.ok true w,es)) (hS:∀w es,(sizeOf ty).runT XG.P w es=(.ok l.length w,es)) (eH:b0<w.heap.size)
  (hc:∀j v,l[j]?=some v->w.cell? ((⟨b0,o0,none⟩:Addr).add j)=some v) (hv:∀ρ,VR XG.F ρ (.agg l.toArray) (.agg l.toArray))
  (n:qf N kv cs (b.at (a.put o.dst (.agg l.toArray)) (.inRegion ops td::k)) w eX Z):qf N kv cs (b.at a (.inRegion ops (i::td)::k)) w eX Z:=λwc s gs sl t SB ρ q kH hN hK=>by
 have run:∀d,∃gD,(ai a.eval o).runT XG.P (wc.at d) #[]=(.ok (.value (.agg l.toArray)) (wc.at d),gD)/\∀e∈gD,∃j,e=⟨.cell ((⟨b0,o0,none⟩:Addr).add j),false,false⟩:=λd=>by
  obtain⟨gD,h1,h2⟩:=WY (P:=XG.P) (w:=wc.at d) (a:=⟨b0,o0,none⟩) (ty:=ty) l (hA _) (hS _) λj v hj=>by
   have:=hc j v hj;have e:(wc.at d).cell? ((⟨b0,o0,none⟩:Addr).add j)=w.cell? ((⟨b0,o0,none⟩:Addr).add j):=xcb (by show wc.heap[_]?=_;rw[s.heap]);rw[e];exact this
  refine⟨gD,?_,h2⟩;have he:ai a.eval o=(Instr.loadAt ty (.pointer (some ⟨b0,o0,none⟩))).bind λv=>Sem.pure (.value v):=by
   unfold ai;rw[eU,<-hx];rfl
  rw[he];rw[bz,h1];simp[dy]
 have hst:∀d,aP XG.P true (G (b.at a (.inRegion ops (i::td)::k)) cs) (wc.at d)=.go (G (b.at (a.put o.dst (.agg l.toArray)) (.inRegion ops td::k)) cs) (wc.at d) _:=λd=>
  aG (P:=XG.P) (main:=true) (b:=b) (k:=k) (cs:=cs) (rest:=td) (a:=a) (w:=wc.at d) ho hw hk (by
   obtain⟨gD,h1,_⟩:=run d
   rw[<-bm XG.P _ _ #[],h1])
 obtain⟨M,jZ,a1,d,w1,es,iZ,t1,q1,fu,hgo,hz,nJ,nW,pU,_⟩:=zG (P:=XG.P) (SB:=SB) (sl:=sl) kH.g0 rfl kH.leavers kH.past λd=>by
  refine⟨_,_,_,hst d,ji _,λev iG=>?_⟩;have:=bi iG;obtain⟨gD,h1,h2⟩:=run d;have ee:(ai a.eval o).events XG.P (wc.at d) #[]=gD:=by
   have:=congrArg Prod.snd h1;simpa[dW]using this
  rw[ee]at this;obtain⟨j,rfl⟩:=h2 ev this;have zU:((⟨b0,o0,none⟩:Addr).add j).block=b0:=by rw[bF]
  refine Fz (F:=λb=>b=b0) (O:=λ_=>False) (show EvF _ _ _ from⟨rfl,zU,λe=>by cases e⟩) (λb hb=>by subst hb;exact hN _ hNb) (λb hb=>by subst hb;show _<wc.heap.size;rw[s.heap];exact eH)
 rw[hst d]at hgo;injection hgo with e1 e2 e3;subst e1;subst e2;obtain⟨oI,iB,w2,nY,t2,tV,ρ2,q2,k1,k2,k3,k4,k5⟩:=n (wc.at d) (s.trans (Same.at wc d)) jZ iZ t1 SB ρ q1
  ⟨nJ,nW,pU,⟨kH.foot.apart,kH.foot.low,kH.foot.own,kH.foot.foot⟩,λhb=>(by rw[show(b.at (a.put o.dst (.agg l.toArray)) (.inRegion ops td::k)).fn=b.fn from rfl,gB]at hb;cases hb),kH.cs,⟨kH.wr.fn,kH.wr.inj,kH.wr.heap,λ_ _=>rfl,kH.wr.sh⟩,trivial⟩ hN hK
 exact⟨oI,iB,w2,nY,t2,tV,ρ2,q2,Runs.trans ⟨M,fu⟩ k1,k2,k3,k4,k5⟩
end
section
variable {N:Blocks} {kv:List ag} {cs eX:List al} {w:ae} {Z:al->ae->Prop} {b:al} {a:Act} {k:List Item}
theorem oz.of {fn:Func} {args:Array ag} (gB:blG f=false) (uP:fb f=true) (uO:XG.P.funcs[f]?=some fn) (pX:∀tmps,∃v,∀w,(results fn tmps).runT XG.P w #[]=(.ok v w,#[]))
  (IJ:∀ρ tmps v w,zm XG.F ρ tmps.toList tmps.toList->(results fn tmps).run XG.P w=.ok v w->VR XG.F ρ v v) (hS:∀v w wc,Same w wc->R v w->R v wc)
  (hc:∀wc,Same w wc->bB XG.P f args wc fun|.returned v,w'=>R v w'|_,_=>False):oz N kv f args w R:=λc cs wc s gs sl t SB ρ q h hN hK=>by
 obtain⟨fn',body,h1,h2,h3,_⟩:=GI ND f uP;have uw:(ao XG.P f args .normal).todo=[.code body]:=by
  unfold ao;rw[show XG.P.funcs[f]?=some fn' from h1];simp[h2]
 have hf:FR XG fb true ρ (ao XG.P f args .normal) (ao XG.P f args .normal):=by
  have h0:=h.fr gB;refine⟨rfl,h0.same,h0.tmps,?_,h0.defers,rfl,h0.run,h0.kind,h0.kind',h0.round⟩;rw[uw];exact .cons (.code h3) .nil
 have hB:Bot [ao XG.P f args .normal]:=by
  intro g hg;simp at hg;subst hg;unfold ao;rw[show XG.P.funcs[f]?=some fn' from h1]
 have hinv:Inv XG fb true (ao XG.P f args .normal) [c0] wc:=⟨ρ,_,[],[],wc,rfl,hf,.nil,h.wr,trivial,hB⟩
 have hm:=Xm yX hinv (R:=R) (λv w τ hr=>hS v (re w τ) w ⟨rfl,rfl,rfl⟩ hr) λτ _=>hc (re wc τ) (s.trans (Same.re wc τ));have QO:∀fr cs w,J7 XG.P f R fr cs w->∀ch,fr.mode≠.panicking ch:=λfr cs w ⟨_,_,v,h,_⟩ ch e=>by rw[h.1]at e;cases e
 obtain⟨M,jZ,iB,wX,w2,mg,iZ,t1,q1,ρ2,hr,⟨gX,rA,v,⟨l1,l2,l3,fn2,l4,l5⟩,hRv⟩,hz,g0,hs,g1,g2,g3,g4,g5,hL,hP,hF⟩:=Xa (sl:=sl) rfl yX QO hm (up:=[]) (base:=c::cs) rfl (by simp) hf .nil (WN.of h.wr) (Same.refl wc) trivial hB h.g0 h.leavers h.past h.foot;have hu:wX=[]:=by
  have:=congrArg bJ gX;simp at this;exact au (by simpa using this)
 subst hu;rw[rA,uO]at l4;cases l4;obtain⟨v',Ej⟩:=pX iB.tmps;have ev:v'=v:=by
  have:=congrArg Prod.fst (Ej w2);rw[bm,l5]at this;cases this;rfl
 subst ev;have hl:Leaves iB v':=⟨l1,l2,l3,fn,by rw[rA];exact uO,Ej⟩
 have iL:Co XG fb blG SB ρ2 jZ iB (c::cs) mg t1 q1:=⟨g0,hL,hP,hF,λ_=>Kl g1,λc' jL hb=>(h.cs c' jL hb).mono g4,WR.self yX g3 hs mg.drawn,trivial⟩
 have last:qf N kv (c::cs) iB mg cs (λfr w'=>∃v,fr=c.finish v/\R v w'):=
  qf.sil (.step (λw=>Lp hl) (.refl _ _)) (λρ h1 h2 _=>⟨λhb=>FSt.finish (h2 c (.head _) (by rw[<-Frame.Le c v'];exact hb)) (IJ ρ iB.tmps v' w2 (h1 (by rw[rA];exact gB)).tmps l5),λc hc=>h2 c (.tail _ hc)⟩) (qf.done λwc s=>⟨v',rfl,hS _ _ _ s (hS _ _ _ hs hRv)⟩)
 obtain⟨Q7,fr3,w3,JY,t3,SB3,ρ3,q3,k1,k2,k3,k4,k5⟩:=last mg (Same.refl _) jZ iZ t1 SB ρ2 q1 iL hN λx hx=>(hK x hx).mono g4;exact⟨Q7,fr3,w3,JY,t3,SB3,ρ3,q3,Runs.trans ⟨M,hr⟩ k1,k2,k3,k4,k5⟩
theorem qf.val (gB:blG b.fn=true) (hk:b.kind≠.early) (v:ag) (ho:ops[i]?=some o) (hw:aa o (ax ops a.tmps)=true)
  (hr:∀w,(ai a.eval o).run XG.P w=.ok (.value v) w/\(ai a.eval o).events XG.P w #[]=#[])
  (n:qf N kv cs (b.at (a.put o.dst v) (.inRegion ops td::k)) w eX Z):qf N kv cs (b.at a (.inRegion ops (i::td)::k)) w eX Z:=by
 refine qf.sil (.step (λw1=>?_) (.refl _ _)) (λ_ _ h2 _=>⟨λhb=>?_,h2⟩) n
 ·have h:=aG (P:=XG.P) (main:=true) (b:=b) (k:=k) (cs:=cs) (rest:=td) (a:=a) (w:=w1) ho hw hk (hr w1).1;rw[h];unfold listed;rw[(hr w1).2,bH]
 ·rw[show(b.at (a.put o.dst v) (.inRegion ops td::k)).fn=b.fn from rfl,gB]at hb;cases hb
end
end
end Ph
section
open Go.RowKit
def letter (b:UInt8):Bool:=decide (97<=b.toNat)&&decide (b.toNat<=122)
def jD (l:List UInt8):Bool:=decide (0<l.length)&&(decide (l.length<=8)&&l.all letter)
def shd (b:Nat):Nat:=if b<=103 then 0 else if b<=109 then 1 else if b<=116 then 2 else 3
def jk (l:List UInt8):Nat:=shd ((l.headD 0).toNat)
theorem Xg (s:ByteArray) (k:Nat) (h:k<s.size):(s.data.toList.take (k+1)).all letter=((s.data.toList.take k).all letter&&letter s[k]):=by
 have:s.data.toList.take (k+1)=s.data.toList.take k++[s[k]]:=by
  rw[List.take_succ_eq_append_getElem (by simpa using h)];rfl
 rw[this,List.all_append];simp
def Qe (w:ae) (e:dz) (w':ae):Prop:=e=.returned (.tuple #[.int .i64 0,.bool false])/\bh w.heap.size w w'
def jge (k:Nat) (w:ae) (e:dz) (w':ae):Prop:=e=.returned (.tuple #[.int .i64 k,.bool true])/\bh w.heap.size w w'
theorem toList_nil (h:s.size=0):s.toList=[]:=by
 rw[aX];apply au;simpa using h
theorem H6 (h:0<s.size):s.toList.isEmpty=false:=by
 rw[aX];cases e:s.data.toList with
 |nil=>
  have:s.data.toList.length=0:=by rw[e];rfl
  have h2:s.data.toList.length=s.size:=by simp
  omega
 |cons a l=>rfl
theorem q4r (s:ByteArray) (w:ae) (h:s.size=0\/8<s.size) (hs:s.size<=bp):bB prog 41 #[.string s] w (Qe w):=by
 unfold bp at hs;rcases h with h|h
 ·have Qp:s.toList=[]:=toList_nil h;have iP:s.toList.isEmpty=true:=by rw[Qp];rfl
  go_enter func41,ntmps41;go_wp2;go_ret2;exact⟨rfl,jg _ _⟩
 ·have iP:s.toList.isEmpty=false:=H6 (by omega);have Cu:decide ((8:Int)<s.size)=true:=by simp;omega
  go_enter func41,ntmps41;go_wp2;go_ret2;exact⟨rfl,jg _ _⟩
theorem WE (b:UInt8):letter b=true↔97<=b.toNat/\b.toNat<=122:=by simp[letter]
theorem GR (s:ByteArray) (w:ae) (h:jD s.data.toList=true):bB prog 41 #[.string s] w (jge (jk s.data.toList) w):=by
 simp only[jD,aT,decide_eq_true_eq,bP,WE]at h;obtain⟨h0,h8,hl⟩:=h;have h0:0<s.size:=by simpa using h0
 have h8:s.size<=8:=by simpa using h8
 have iP:s.toList.isEmpty=false:=H6 h0;have Cu:decide ((8:Int)<s.size)=false:=by simp;omega
 have HL:=Hd hl;clear hl;go_enter func41,ntmps41;go_wp2;go_loopw [5] (λ_ w'=>∃pos,pos<=s.size/\w'=w.iter s pos) (λ_ w'=>s.size-w'.iterPos w.heap.size);case atStart=>exact⟨0,xzl _,rfl⟩
 case round=>
  obtain⟨pos,hle,rfl⟩:=hrel;by_cases hp:pos<s.size
  ·have eH:=HL.o s[pos] (by simp[bk]);have ha:(s[pos]'hp).toNat<128:=by omega
   have g1:decide (((s[pos]'hp).toNat:Int)<97)=false:=by simp;omega
   have g2:decide ((122:Int)<((s[pos]'hp).toNat:Int))=false:=by simp;omega
   have IW:∀ty,(Instr.next (.pointer (some ⟨w.heap.size,0,none⟩)) true ty).run prog (w.iter s pos)=_:=λty=>run_next_ascii w s pos ty hp ha;go_wp2;go_roundw;case rel=>exact⟨pos+1,by omega,rfl⟩
   case measure=>simp;omega
  ·have IW:∀ty,(Instr.next (.pointer (some ⟨w.heap.size,0,none⟩)) true ty).run prog (w.iter s pos)=_:=λty=>run_next_end w s pos ty hp;have hh:jk s.data.toList=shd (s[0]'h0).toNat:=by
    unfold jk;cases e:s.data.toList with
    |nil=>
     have:s.data.toList.length=s.size:=by simp
     rw[e]at this;simp at this;omega
    |cons a l=>
     have:s[0]=a:=by
      have h1:s[0]=s.data.toList[0]'(by simpa using h0):=by simp[bk]
      rw[h1];simp[e]
     rw[this];rfl
   have HH:=Hd hh;clear hh;have he:bh w.heap.size w (w.iter s pos):=(jg _ _).alloc (ji _) _;go_wp2;all_goals
    go_ret2;refine⟨?_,he⟩;rw[HH.o];unfold shd
   ·rw[if_pos (by omega)];rfl
   ·rw[if_neg (by omega),if_pos (by omega)];rfl
   ·rw[if_neg (by omega),if_neg (by omega),if_pos (by omega)];rfl
   ·rw[if_neg (by omega),if_neg (by omega),if_neg (by omega)];rfl
theorem jc9 (s:ByteArray) (w:ae) (h0:0<s.size) (h8:s.size<=8) (hl:¬s.data.toList.all letter=true):bB prog 41 #[.string s] w (Qe w):=by
 have iP:s.toList.isEmpty=false:=H6 h0;have Cu:decide ((8:Int)<s.size)=false:=by simp;omega
 have HL:=Hd hl;clear hl;go_enter func41,ntmps41;go_wp2;go_loopw [5] (λ_ w'=>∃pos,pos<=s.size/\w'=w.iter s pos/\(s.data.toList.take pos).all letter=true) (λ_ w'=>s.size-w'.iterPos w.heap.size);case atStart=>exact⟨0,xzl _,rfl,by simp⟩
 case round=>
  obtain⟨pos,hle,rfl,gm⟩:=hrel;have HA:=Hd gm;clear gm;by_cases hp:pos<s.size
  ·have he:bh w.heap.size w (w.iter s (pos+(Utf8.decode s pos).2)):=(jg _ _).alloc (ji _) _;by_cases ha:(s[pos]'hp).toNat<128
   ·have IW:∀ty,(Instr.next (.pointer (some ⟨w.heap.size,0,none⟩)) true ty).run prog (w.iter s pos)=_:=λty=>run_next_ascii w s pos ty hp ha;have he:bh w.heap.size w (w.iter s (pos+1)):=(jg _ _).alloc (ji _) _;by_cases h1:(s[pos]'hp).toNat<97
    ·have g1:decide (((s[pos]'hp).toNat:Int)<97)=true:=by simp;omega
     go_wp2;go_ret2;exact⟨rfl,he⟩
    ·have g1:decide (((s[pos]'hp).toNat:Int)<97)=false:=by simp;omega
     by_cases h2:122<(s[pos]'hp).toNat
     ·have g2:decide ((122:Int)<((s[pos]'hp).toNat:Int))=true:=by simp;omega
      go_wp2;go_ret2;exact⟨rfl,he⟩
     ·have g2:decide ((122:Int)<((s[pos]'hp).toNat:Int))=false:=by simp;omega
      have eH:letter s[pos]=true:=by simp[letter];omega
      have hn:(s.data.toList.take (pos+1)).all letter=true:=by rw[Xg s pos hp,HA.o,eH];rfl
      have HN:=Hd hn;clear hn eH;go_wp2;go_roundw;case rel=>exact⟨pos+1,by omega,rfl,HN.o⟩
      case measure=>simp;omega
   ·have hdh:=decode_high s pos hp (by omega);have IW:∀ty,(Instr.next (.pointer (some ⟨w.heap.size,0,none⟩)) true ty).run prog (w.iter s pos)=_:=λty=>run_next_any w s pos ty hp;have g1:decide (((Utf8.decode s pos).1:Int)<97)=false:=by simp;omega
    have g2:decide ((122:Int)<((Utf8.decode s pos).1:Int))=true:=by simp;omega
    go_wp2;go_ret2;exact⟨rfl,he⟩
  ·exact absurd (by have e:=HA.o;rwa [bZ (by simp;omega)]at e) HL.o
theorem O9 (s:ByteArray) (w:ae) (h:jD s.data.toList=false) (hs:s.size<=bp):bB prog 41 #[.string s] w (Qe w):=by
 by_cases h0:s.size=0\/8<s.size
 ·exact q4r s w h0 hs
 ·refine jc9 s w (by omega) (by omega) λhl=>?_;have:jD s.data.toList=true:=by
   simp only[jD,aT,decide_eq_true_eq];exact⟨by simp;omega,by simp;omega,hl⟩
  rw[h]at this;cases this
end
section
open Go.RowKit Go.Maps
abbrev Bs:=List UInt8
abbrev KV:=List (Bs×Bs)
def sv (l:Bs):ag:=.string ⟨l.toArray⟩
def Rv:ag->Option (DataW Unit×List MemPlace)
 |.agg cs=>match cs.toList with
  |[.string s]=>some (.agg [.lit (.string s.data.toList)],[])
  |_=>none
 |_=>none
def ev (v:Bs):DataW Unit:=.agg [.lit (.string v)]
def DM (L:KV):DataW Unit:=.map (L.map λp=>(.string p.1,ev p.2))
def zk (w:ae) (mb:Nat) (L:KV):Prop:=w.ownsMap prog 9 Rv mb L.length (DM L)
theorem X6 {v:ag} {b:Bs} {ps:List MemPlace} (h:Rv v=some (ev b,ps)):v=.agg #[sv b]:=by
 cases v with
 |agg cs=>
  obtain⟨l⟩:=cs;simp only[Rv]at h;split at h
  ·rename_i s;simp only[Option.some.injEq,Prod.mk.injEq,ev]at h;obtain⟨h1,_⟩:=h;injection h1 with h1;injection h1 with h1 _;injection h1 with h1;injection h1 with h1;subst h1;rfl
  ·cases h
 |_=>cases h
def jh (L:KV) (k:Bs):Option Bs:=(L.find? (λp=>p.1==k)).map (·.2)
theorem q78 (L:KV) (k:Bs):(L.map λp=>((aR p.1:Lit),ev p.2)).find? (λp=>p.1.sameKey (.string k))=(L.find? (λp=>p.1==k)).map λp=>(.string p.1,ev p.2):=by
 induction L with
 |nil=>rfl
 |cons p L ih=>
  rw[aZ,cg,cg,ih];have:((aR p.1).sameKey (.string k))=(p.1==k):=rfl;rw[this];cases p.1==k<;>rfl
theorem Vw (L:KV) (k:Bs) (z:DataW Unit):(DM L).atKey (.string k) z=match jh L k with|some v=>ev v|none=>z:=by
 unfold DM DataW.atKey jh;dsimp only;rw[q78];cases L.find? (λp=>p.1==k)<;>rfl
theorem jct (L:KV) (k:Bs):Maps.has (DM L) (.string k)=(jh L k).isSome:=by
 unfold DM jh;rw[Maps.has_eq,Option.isSome_map,List.any_map];induction L with
 |nil=>rfl
 |cons p L ih=>
  rw[List.any_cons,cg,ih];have e:((λp:Lit×DataW Unit=>p.1.sameKey (.string k))∘λp:Bs×Bs=>((aR p.1:Lit),ev p.2)) p=(p.1==k):=rfl;rw[e];cases p.1==k<;>rfl
theorem Kt (L:KV):Maps.size (DM L)=L.length:=by simp[DM,Maps.size]
theorem zk.of {mb:Nat} {L:KV} (h:w.ownsMap prog 9 Rv mb n (DM L)):zk w mb L:=by
 obtain⟨es,clock,hb,F,hs,hD⟩:=h;refine⟨es,clock,hb,F,?_,hD⟩;have h1:Maps.size (DM L)=es.size:=by rw[hD];simp[Maps.size,length_sorted]
 rw[Kt]at h1;omega
theorem zk.block {mb:Nat} {L:KV} (h:zk w mb L) (k:w'.heap[mb]?=w.heap[mb]?):zk w' mb L:=by
 obtain⟨es,clock,hb,F⟩:=h;exact⟨es,clock,k.trans hb,F⟩
theorem TT (w:ae):(zeroValue 146).run prog w=.ok (.agg #[.string ⟨#[]⟩]) w:=by kernel_rfl
theorem Kc (s:ByteArray) (hs:s.size<=bp):keyOf prog 9 (.string s)=some (.string s.data.toList):=WideMaps.keyOf_string_mk underlying9 hs
section
variable {w:ae} {db mb:Nat} {L:KV}
theorem jiw (hd:w.cell? ⟨db,0,none⟩=some (.map (some mb))) (hm:zk w mb L):bB prog 68 #[.pointer (some ⟨db,0,none⟩)] w λe w'=>e=.returned (.int .i64 L.length)/\w'=w:=by
 have gH:=hm;have hlen:=λty=>gH.len underlying140 ty;rw[Kt]at hlen;clear gH hm;go_enter func68,ntmps68;go_wp2;go_ret;exact⟨rfl,rfl⟩
theorem q8c (hm:zk w mb L) (s:ByteArray) (hs:s.size<=bp):(Instr.lookup 140 (.map (some mb)) (.string s) true).run prog w=.ok (.tuple #[.agg #[sv ((jh L s.data.toList).getD [])],.bool (jh L s.data.toList).isSome]) w:=by
 have gH:=hm;obtain⟨v,ps,fu,hv⟩:=gH.look_ok (string_keyed underlying9) underlying140 (TT w) (zd:=ev []) (zp:=[]) rfl (Kc s hs);rw[jct]at fu;rw[Vw]at hv;have:Rv v=some (ev ((jh L s.data.toList).getD []),ps):=by
  rw[hv];cases jh L s.data.toList<;>rfl
 rw[fu,X6 this]
def UI (w:ae) (x:Option Bs) (e:dz) (w':ae):Prop:=e=.returned (.tuple #[sv (x.getD []),.bool x.isSome])/\bh w.heap.size w w'
theorem Pz (hd:w.cell? ⟨db,0,none⟩=some (.map (some mb))) (hm:zk w mb L) (s:ByteArray) (hs:s.size<=bp):bB prog 42 #[.pointer (some ⟨db,0,none⟩),.string s] w (UI w (jh L s.data.toList)):=by
 have hg:=q8c hm s hs;clear hm;unfold UI;generalize jh L s.data.toList=x at*;unfold sv at*;generalize (⟨(x.getD []).toArray⟩:ByteArray)=bs at*;go_enter func42,ntmps42;go_wp2;go_ret2;exact⟨rfl,(jg _ _).alloc (ji _) _⟩
end
structure But (B:Nat->Prop) (w w':ae):Prop where
 size:w.heap.size<=w'.heap.size
 keep:∀k,k<w.heap.size->¬B k->w'.heap[k]?=w.heap[k]?
 os:w'.os=w.os
 output:w'.output=w.output
theorem But.refl (B:Nat->Prop) (w:ae):But B w w:=⟨ji _,λ_ _ _=>rfl,rfl,rfl⟩
theorem But.trans {B:Nat->Prop} {b c:ae} (h:But B a b) (k:But B b c):But B a c:=
 ⟨xlt h.size k.size,λi hi hb=>(k.keep i (xll hi h.size) hb).trans (h.keep i hi hb),k.os.trans h.os,k.output.trans h.output⟩
theorem But.mono {B B':Nat->Prop} (h:But B w w') (k:∀b,B b->B' b):But B' w w':=⟨h.size,λi hi hb=>h.keep i hi λx=>hb (k i x),h.os,h.output⟩
theorem But.drew {B:Nat->Prop} (h:But B w w'):But B w w'.drew:=⟨h.size,h.keep,h.os,h.output⟩
theorem But.of_below {B:Nat->Prop} (h:bh w.heap.size w w'):But B w w':=⟨h.size,λi hi _=>h.block i hi,h.os,h.output⟩
def ins (k v:Bs):KV->KV
 |[]=>[(k,v)]
 |p::L=>if aj k p.1 then(k,v)::p::L else p::ins k v L
def nP (L:KV) (k v:Bs):KV:=ins k v (L.filter λp=>!(p.1==k))
def mr (L:KV) (k:Bs):KV:=L.filter λp=>!(p.1==k)
theorem VZ (L:KV) (k:Bs):((L.map λp=>((aR p.1:Lit),ev p.2)).filter λp=>!p.1.sameKey (.string k))=(mr L k).map λp=>(.string p.1,ev p.2):=by
 induction L with
 |nil=>rfl
 |cons p L ih=>
  have e:((aR p.1).sameKey (.string k))=(p.1==k):=rfl;rw[aZ,de,ih];unfold mr;rw[de];rw[e];cases p.1==k<;>rfl
theorem jcd (L:KV) (k:Bs):(DM L).del (.string k)=DM (mr L k):=by
 unfold DM DataW.del;dsimp only;rw[VZ]
theorem qzl (L:KV) (k v:Bs):DataW.insert ((aR k:Lit),ev v) (L.map λp=>((aR p.1:Lit),ev p.2))=(ins k v L).map λp=>(.string p.1,ev p.2):=by
 induction L with
 |nil=>rfl
 |cons p L ih=>
  rw[aZ];unfold DataW.insert ins;have e:((aR k).before (aR p.1))=aj k p.1:=rfl;rw[e];cases aj k p.1
  ·simp[ih]
  ·rfl
theorem jdo (L:KV) (k v:Bs):(DM L).put (.string k) (ev v)=DM (nP L k v):=by
 unfold DM DataW.put;dsimp only;rw[VZ,qzl];rfl
section
variable {w:ae} {db mb:Nat} {L:KV}
theorem q9c (hm:zk w mb L) (hL:L.length<1073741823) (k v:ByteArray) (hk:k.size<=bp):
  ∃w',(Instr.mapUpdate 140 (.map (some mb)) (.string k) (.agg #[.string v])).run prog w=.ok () w'/\zk w' mb (nP L k.data.toList v.data.toList)/\But (· =mb) w w':=by
 have h1:Rv (.agg #[.string v])=some (ev v.data.toList,[]):=rfl;obtain⟨w',fu,ho,hg⟩:=World.ownsMap.update hm (string_keyed underlying9) underlying140 (by unfold bp;omega) (Kc k hk) h1;rw[jdo]at ho;exact⟨w',fu,.of ho,⟨hg.size,λi hi hb=>hg.block i hi (by simpa using hb),hg.os,hg.output⟩⟩
theorem q7u (hm:zk w mb L) (k:ByteArray) (hk:k.size<=bp) (ty:cU):
  ∃w',(Builtin.delete_ #[140,9] ty #[.map (some mb),.string k]).run prog w=.ok (.tuple #[]) w'/\zk w' mb (mr L k.data.toList)/\But (· =mb) w w':=by
 obtain⟨w',fu,ho,⟨es,ck,iV,ck',hb,rfl⟩⟩:=World.ownsMap.drop hm (string_keyed underlying9) underlying140 (Kc k hk) ty;rw[jcd]at ho;exact⟨_,fu,.of ho,⟨by simp[ChangeMaps.setBlock],λi hi hn=>ChangeMaps.heap_setBlock_other hb _ hn,rfl,rfl⟩⟩
def NA (w:ae) (mb:Nat) (L:KV) (e:dz) (w':ae):Prop:=e=.returned (.tuple #[])/\zk w' mb L/\But (· =mb) w w'
theorem GX (hd:w.cell? ⟨db,0,none⟩=some (.map (some mb))) (hm:zk w mb L) (hL:L.length<1073741823) (k v:ByteArray) (hk:k.size<=bp):
  bB prog 69 #[.pointer (some ⟨db,0,none⟩),.agg #[.string k,.string v,.bool false]] w (NA w mb (nP L k.data.toList v.data.toList)):=by
 go_enter func69,ntmps69;go_wp2;have eH:db<w.heap.size:=xbl w ⟨db,0,none⟩ hd;have c0:(w.alloc (.cells #[.string k,.string v,.bool false] 87)).cell? ⟨w.heap.size,0,none⟩=some (.string k):=by go_simp
 have c1:(w.alloc (.cells #[.string k,.string v,.bool false] 87)).cell? ⟨w.heap.size,1,none⟩=some (.string v):=by go_simp
 have cd:(w.alloc (.cells #[.string k,.string v,.bool false] 87)).cell? ⟨db,0,none⟩=some (.map (some mb)):=(xcb (aS w _ eH)).trans hd;have hB:But (· =mb) w (w.alloc (.cells #[.string k,.string v,.bool false] 87)):=.of_below ((jg _ _).alloc (ji _) _);have P8:=hm.lt;have IZ:zk (w.alloc (.cells #[.string k,.string v,.bool false] 87)) mb L:=hm.block (aS w _ P8);generalize w.alloc (.cells #[.string k,.string v,.bool false] 87)=W at*;obtain⟨w2,fu,zQ,QX⟩:=q9c (w:=W.drew) (IZ.block rfl) hL k v hk;refine cy 11 (by kernel_rfl) (by kernel_rfl) ?_;change wpStill _ _ W.drew (λa'=>wpList _ _ _ _ a' W.drew) _ _;simp only[aI,dA,aJ,dB];repeat still_step
 refine wpStill_nil ?_;go_wp2;go_end0;exact⟨rfl,zQ,hB.drew.trans QX⟩
theorem NE (hd:w.cell? ⟨db,0,none⟩=some (.map (some mb))) (hm:zk w mb L) (k v:ByteArray) (hk:k.size<=bp):
  bB prog 69 #[.pointer (some ⟨db,0,none⟩),.agg #[.string k,.string v,.bool true]] w (NA w mb (mr L k.data.toList)):=by
 go_enter func69,ntmps69;go_wp2;have eH:db<w.heap.size:=xbl w ⟨db,0,none⟩ hd;have c0:(w.alloc (.cells #[.string k,.string v,.bool true] 87)).cell? ⟨w.heap.size,0,none⟩=some (.string k):=by go_simp
 have cd:(w.alloc (.cells #[.string k,.string v,.bool true] 87)).cell? ⟨db,0,none⟩=some (.map (some mb)):=(xcb (aS w _ eH)).trans hd;have hB:But (· =mb) w (w.alloc (.cells #[.string k,.string v,.bool true] 87)):=.of_below ((jg _ _).alloc (ji _) _);have P8:=hm.lt;have IZ:zk (w.alloc (.cells #[.string k,.string v,.bool true] 87)) mb L:=hm.block (aS w _ P8);generalize w.alloc (.cells #[.string k,.string v,.bool true] 87)=W at*;obtain⟨w2,fu,zQ,QX⟩:=q7u (w:=W.drew) (IZ.block rfl) k hk 0;refine cy 7 (by kernel_rfl) (by kernel_rfl) ?_;change wpStill _ _ W.drew (λa'=>wpList _ _ _ _ a' W.drew) _ _;simp only[aI,dA,aJ,dB];repeat still_step
 refine wpStill_nil ?_;go_wp2;go_end0;exact⟨rfl,zQ,hB.drew.trans QX⟩
end
end
section
theorem D7:∀a:Bs,aj a a=false
 |[]=>rfl
 |x::r=>by simp[aj,D7 r]
theorem KQ:∀{a b c:Bs},aj a b=true->aj b c=true->aj a c=true
 |[],[],[],h,_=>h
 |[],_::_,[],_,h=>by simp[aj]at h
 |[],_,_::_,_,_=>rfl
 |_::_,[],_,h,_=>by simp[aj]at h
 |_::_,_::_,[],_,h=>by simp[aj]at h
 |x::r,y::s,z::t,h,k=>by
  simp only[aj,dl,decide_eq_true_eq,aT,beq_iff_eq]at*;rcases h with h|⟨h,h2⟩<;>rcases k with k|⟨k,k2⟩
  ·exact .inl (UInt8.lt_trans h k)
  ·subst k;exact .inl h
  ·subst h;exact .inl k
  ·subst h;subst k;exact .inr ⟨rfl,KQ h2 k2⟩
theorem Hq:∀a b:Bs,aj a b=true\/a=b\/aj b a=true
 |[],[]=>.inr (.inl rfl)
 |[],_::_=>.inl rfl
 |_::_,[]=>.inr (.inr rfl)
 |x::r,y::s=>by
  simp only[aj,dl,decide_eq_true_eq,aT,beq_iff_eq,List.cons.injEq];rcases bC (UInt8.le_refl x)with h|h
  ·exact absurd h (UInt8.lt_irrefl x)
  ·rcases UInt8.le_total x y with h1|h1
   ·rcases bC h1 with h2|h2
    ·exact .inl (.inl h2)
    ·subst h2;rcases Hq r s with h3|h3|h3
     ·exact .inl (.inr ⟨rfl,h3⟩)
     ·exact .inr (.inl ⟨rfl,h3⟩)
     ·exact .inr (.inr (.inr ⟨rfl,h3⟩))
   ·rcases bC h1 with h2|h2
    ·exact .inr (.inr (.inl h2))
    ·subst h2;rcases Hq r s with h3|h3|h3
     ·exact .inl (.inr ⟨rfl,h3⟩)
     ·exact .inr (.inl ⟨rfl,h3⟩)
     ·exact .inr (.inr (.inr ⟨rfl,h3⟩))
theorem KR {a b:Bs} (h:aj a b=true):aj b a=false:=by
 cases e:aj b a with
 |false=>rfl
 |true=>have:=KQ h e;rw[D7]at this;cases this
theorem J6 {a b:Bs} (h:aj a b=true):(a==b)=false:=by
 rw[beq_eq_false_iff_ne];rintro rfl;rw[D7]at h;cases h
theorem FB {a b:Bs} (h:aj a b=true):(b==a)=false:=by
 rw[beq_eq_false_iff_ne];rintro rfl;rw[D7]at h;cases h
def jr (L:KV):Prop:=L.Pairwise λa b=>aj a.1 b.1=true
def pF:KV->Bs->Nat
 |[],_=>0
 |p::L,k=>if aj p.1 k then pF L k+1 else 0
def oM:KV->Bs->Bool
 |[],_=>false
 |p::L,k=>if aj p.1 k then oM L k else p.1==k
def DF (L:KV) (k v:Bs) (g:Bool):KV:=L.take (pF L k)++(if g then[]else[(k,v)])++L.drop (if oM L k then pF L k+1 else pF L k)
theorem WO {L:KV} {k:Bs} (h:∀p∈L,aj k p.1=true):jh L k=none/\mr L k=L:=by
 constructor
 ·unfold jh;rw[Option.map_eq_none_iff,List.find?_eq_none];intro p hp;rw[FB (h p hp)];simp
 ·unfold mr;rw[List.filter_eq_self];intro p hp;rw[FB (h p hp)];rfl
theorem VN {L:KV} {k v:Bs} (h:∀p∈L,aj k p.1=true):ins k v L=(k,v)::L:=by
 cases L with
 |nil=>rfl
 |cons p L=>simp[ins,h p (.head _)]
theorem qoo {p:Bs×Bs} {L:KV} {k v:Bs} (h:aj p.1 k=true):nP (p::L) k v=p::nP L k v:=by
 simp[nP,J6 h,ins,KR h]
theorem qon {p:Bs×Bs} {L:KV} {k:Bs} (h:aj p.1 k=true):mr (p::L) k=p::mr L k:=by
 simp[mr,J6 h]
theorem Xi {p:Bs×Bs} {L:KV} {k:Bs} (h:aj p.1 k=true):jh (p::L) k=jh L k:=by
 simp[jh,J6 h]
theorem Ce:∀{L:KV} (_:jr L) (k:Bs),pF L k<=L.length/\oM L k=(jh L k).isSome/\(∀v,jh L k=some v->L[pF L k]?=some (k,v))/\(∀v,DF L k v true=mr L k)/\(∀v,DF L k v false=nP L k v)
 |[],_,k=>⟨ji _,rfl,λv h=>by simp[jh]at h,λv=>rfl,λv=>rfl⟩
 |p::L,hr,k=>by
  obtain⟨hp,hL⟩:=bj.1 hr;obtain⟨i1,i2,i3,i4,i5⟩:=Ce hL k;unfold DF at i4 i5⊢;unfold pF oM;rcases Hq p.1 k with h|h|h
  ·simp only[h,if_true];refine⟨by simp;omega,by rw[Xi h];exact i2,λv hv=>by rw[Xi h]at hv;simpa using i3 v hv,λv=>?_,λv=>?_⟩
   ·rw[qon h,<-i4 v];cases oM L k<;>simp
   ·rw[qoo h,<-i5 v];cases oM L k<;>simp
  ·obtain⟨pk,pv⟩:=p;obtain rfl:pk=k:=h;obtain⟨a1,a2⟩:=WO hp;rw[D7];simp only[cH,if_false,beq_self_eq_true,if_true];refine⟨xzl _,by simp[jh],λv hv=>by simp[jh]at hv;simp[hv],λv=>?_,λv=>?_⟩
   ·unfold mr at a2⊢;simp[a2]
   ·unfold mr at a2;unfold nP;simp[a2,VN hp]
  ·have gm:∀q∈p::L,aj k q.1=true:=λq hq=>by
    rcases aB.1 hq with rfl|hq
    ·exact h
    ·exact KQ h (hp q hq)
   obtain⟨a1,a2⟩:=WO gm;simp only[KR h,cH,if_false];refine⟨xzl _,(by rw[a1,FB h];rfl),λv hv=>(by rw[a1]at hv;cases hv),λv=>(by rw[a2,FB h];simp),λv=>?_⟩;rw[FB h];unfold nP;have Z8:=a2;unfold mr at Z8;rw[Z8,VN gm];simp
theorem NQ {k v:Bs} {q:Bs×Bs}:∀{L:KV},q∈ins k v L->q=(k,v)\/q∈L
 |[],h=>by simp[ins]at h;exact .inl h
 |p::L,h=>by
  unfold ins at h;split at h
  ·rcases aB.1 h with h|h
   ·exact .inl h
   ·exact .inr h
  ·rcases aB.1 h with h|h
   ·exact .inr (h▸.head _)
   ·rcases NQ h with h|h
    ·exact .inl h
    ·exact .inr (.tail _ h)
theorem Wx {k v:Bs}:∀{L:KV},jr L->(∀p∈L,(p.1==k)=false)->jr (ins k v L)
 |[],_,_=>by simp[ins,jr]
 |p::L,hr,hn=>by
  obtain⟨hp,hL⟩:=bj.1 hr;unfold ins;split
  ·rename_i h;exact bj.2 ⟨λq hq=>by
    rcases aB.1 hq with rfl|hq
    ·exact h
    ·exact KQ h (hp q hq),hr⟩
  ·rename_i h;refine bj.2 ⟨λq hq=>?_,Wx hL λq hq=>hn q (.tail _ hq)⟩;rcases NQ hq with rfl|hq
   ·rcases Hq p.1 k with h1|h1|h1
    ·exact h1
    ·have:=hn p (.head _);rw[h1]at this;simp at this
    ·exact absurd h1 h
   ·exact hp q hq
theorem Lh {L:KV} (h:jr L) (k:Bs):jr (mr L k):=h.filter _
theorem OJ {L:KV} (h:jr L) (k v:Bs):jr (nP L k v):=Wx (Lh h k) λp hp=>by
 have:=(cj.1 hp).2;simpa using this
theorem OL (k v:Bs):∀L:KV,(ins k v L).length=L.length+1
 |[]=>rfl
 |p::L=>by
  unfold ins;split
  ·rfl
  ·simp[OL k v L]
theorem XZ (L:KV) (k:Bs):(mr L k).length<=L.length:=List.length_filter_le _ _
theorem jdq (L:KV) (k v:Bs):(nP L k v).length<=L.length+1:=by
 unfold nP;rw[OL];have:=XZ L k;unfold mr at this;omega
theorem q9b {L:KV} {k v:Bs} (h:(jh L k).isSome=true):(nP L k v).length<=L.length:=by
 unfold nP;rw[OL];have:(L.filter λp=>!(p.1==k)).length<L.length:=by
  unfold jh at h;rw[Option.isSome_map,List.find?_isSome]at h;obtain⟨p,hp,h2⟩:=h;exact List.length_filter_lt_length_iff_exists.2 ⟨p,hp,by simpa using h2⟩
 omega
theorem q8u {L:KV} {k v:Bs} {q:Bs×Bs} (h:q∈nP L k v):q=(k,v)\/q∈L:=by
 rcases NQ h with h|h
 ·exact .inl h
 ·exact .inr (cj.1 h).1
theorem q8t {L:KV} {k:Bs} {q:Bs×Bs} (h:q∈mr L k):q∈L:=(cj.1 h).1
def inB (s t:Bs) (p:Bs×Bs):Bool:=!aj p.1 s&&(t.isEmpty||aj p.1 t)
end
section
open Go.RowKit Go.Maps
def flat (L:KV):List ag:=L.flatMap λp=>[sv p.1,sv p.2]
theorem zF:flat []=[]:=rfl
theorem D6 (p:Bs×Bs) (L:KV):flat (p::L)=sv p.1::sv p.2::flat L:=rfl
theorem Ib (A B:KV):flat (A++B)=flat A++flat B:=List.flatMap_append
theorem Lu (L:KV):(flat L).length=L.length*2:=by
 induction L with
 |nil=>rfl
 |cons p L ih=>rw[D6];simp only[da,ih];omega
theorem Oz:∀(L:KV) (k:Nat),(flat L).take (k*2)=flat (L.take k)
 |[],k=>by simp[zF]
 |p::L,0=>by simp[zF]
 |p::L,k+1=>by
  rw[D6,aI,D6,show(k+1)*2=k*2+1+1 by omega,aI,aI,Oz L k]
theorem VU:∀(L:KV) (k:Nat),(flat L).drop (k*2)=flat (L.drop k)
 |[],k=>by simp[zF]
 |p::L,0=>by simp
 |p::L,k+1=>by
  rw[D6,aJ,show(k+1)*2=k*2+1+1 by omega,aJ,aJ,VU L k]
theorem flat_get:∀(L:KV) (k:Nat) (p:Bs×Bs),L[k]?=some p->(flat L)[k*2]?=some (sv p.1)/\(flat L)[k*2+1]?=some (sv p.2)
 |[],k,p,h=>by simp at h
 |q::L,0,p,h=>by simp at h;subst h;exact⟨rfl,rfl⟩
 |q::L,k+1,p,h=>by
  rw[D6,show(k+1)*2=k*2+1+1 by omega];simpa using flat_get L k p (by simpa using h)
theorem Om {L:KV} {x:ag} (h:x∈flat L):∃s,x=.string s:=by
 obtain⟨p,_,h⟩:=List.mem_flatMap.1 h;rcases aB.1 h with rfl|h
 ·exact⟨_,rfl⟩
 ·rcases aB.1 h with rfl|h
  ·exact⟨_,rfl⟩
  ·cases h
def kS (w:ae) (v:ag):Prop:= ∀g,v.ownBlock=some g->∃cur ty,w.heap[g]?=some (.cells cur ty (0,0))/\∀x∈cur.toList,∃s,x=.string s
theorem kS.nil (w:ae):kS w (.slice none 0 0):=λg h=>by cases h
theorem kS.block {v:ag} (h:kS w v) (k:∀g,v.ownBlock=some g->w'.heap[g]?=w.heap[g]?):kS w' v:=λg hg=>
 let⟨cur,ty,h1,h2⟩:=h g hg
 ⟨cur,ty,(k g hg).trans h1,h2⟩
theorem VH:∃i,prog.info? 74=some i/\i.zero=some (.agg #[.string ⟨#[]⟩,.string ⟨#[]⟩])/\i.size=2/\i.bytes=32:=by
 have h:(prog.info? 74).map (λi=>(i.zero,i.size,i.bytes))=some (some (.agg #[.string ⟨#[]⟩,.string ⟨#[]⟩]),2,32):=by kernel_rfl
 obtain⟨i,h1,h2⟩:=aK.1 h;injection h2 with h2 h3;injection h3 with h3 h4;exact⟨i,h1,h2,h3,h4⟩
structure Src (w:ae) (sa:Option Addr) (m:Nat) (news:List ag):Prop where
 len:news.length=m*2
 cell:∀ad,sa=some ad->∀j u,news[j]?=some u->w.cell? (ad.add j)=some u
 zero:sa=none->m=0
 str:∀u∈news,∃s,u=.string s
theorem qop {z:Array ag} {x:ag} (hz:0<z.size) (h:x∈(aO z n).toList):x∈z.toList:=by
 unfold aO at h;simp only[Array.mem_toList_iff]at h⊢;rw[Array.mem_map]at h;obtain⟨i,_,rfl⟩:=h;have:i%z.size<z.size:=Nat.mod_lt _ hz;rw[getElem!_pos z _ this];exact Array.getElem_mem this
section
variable {w:ae} {base n m c:Nat} {v:ag} {xs news:List ag} {sa:Option Addr}
theorem Ue (ty:cU) (gH:w.ownsRow base 74 2 v n xs) (ha:kS w v) (hs:Src w sa m news) (hb:n+m<=1073741824) (kK:base<=w.heap.size):
  ∃v' w',(aE #[47,47] ty #[v,.slice sa m c]).run prog w=.ok v' w'/\w'.ownsRow base 74 2 v' (n+m) (xs++news)/\kS w' v'/\w.grownBy w' v.ownBlock:=by
 obtain⟨i,hi,hz,fC,Zu⟩:=VH;have ht:prog.underlying 47=some (.slice 74):=underlying47;have hlen:(xs++news).length=(n+m)*2:=by rw[cJ,gH.1,hs.len,Nat.add_mul]
 have hl:news.length=m*i.size:=by rw[fC];exact hs.len
 have one:∀u∈news,u.oneCell'=true:=λu hu=>by obtain⟨s,rfl⟩:=hs.str u hu;rfl
 have Cr:∀x∈xs,∃s,x=.string s:=λx hx=>by
  rcases gH.2 with⟨_,rfl⟩|⟨g,cap,cur,rfl,_,hg,_,_,_,rM⟩
  ·have:xs=[]:=au (by simpa using gH.1);subst this;cases hx
  ·obtain⟨um,TJ,h1,h2⟩:=ha g rfl;rw[hg]at h1;cases h1;rw[<-rM]at hx;exact h2 x (aQ hx)
 have grown:∀(old:Nat),old<n+m->∀(row:Option Nat),
   (w.drew.alloc (.cells (xs.toArray++news.toArray++aO (Value.agg #[.string ⟨#[]⟩,.string ⟨#[]⟩]).cells (grownCap w (n+m) old 74-(n+m))) 74)).ownsRow base 74 2
    (.slice (some ⟨w.heap.size,0,none⟩) (n+m) (grownCap w (n+m) old 74)) (n+m) (xs++news)/\
   kS (w.drew.alloc (.cells (xs.toArray++news.toArray++aO (Value.agg #[.string ⟨#[]⟩,.string ⟨#[]⟩]).cells (grownCap w (n+m) old 74-(n+m))) 74)) (.slice (some ⟨w.heap.size,0,none⟩) (n+m) (grownCap w (n+m) old 74))/\
   w.grownBy (w.drew.alloc (.cells (xs.toArray++news.toArray++aO (Value.agg #[.string ⟨#[]⟩,.string ⟨#[]⟩]).cells (grownCap w (n+m) old 74-(n+m))) 74)) row:=by
  intro old ho row;have jK:=grownCap_ge w (n+m) old 74;have QI:grownCap w (n+m) old 74<=bp:=grownCap_le_maxLen w (n+m) old 74 (by unfold bp;omega);refine⟨⟨hlen,.inr ⟨w.heap.size,_,_,rfl,kK,heap_alloc_new w.drew _,jK,QI,?_,?_⟩⟩,?_,⟨rfl,rfl,rfl,by simp,λk hk _=>aS w.drew _ hk⟩⟩
  ·have:(Value.agg #[.string ⟨#[]⟩,.string ⟨#[]⟩]).cells.size=2:=rfl;have h1:=gH.1;have h2:=hs.len;rw[Array.size_append,Array.size_append,size_zeroCells,this,bw,bw];omega
  ·simp only[cB,cT];rw[<-cT,<-hlen];exact List.take_left
  ·intro g hg;cases hg;refine⟨_,_,heap_alloc_new w.drew _,λx hx=>?_⟩;simp only[cB,cn]at hx;rcases hx with(hx|hx)|hx
   ·exact Cr x hx
   ·exact hs.str x hx
   ·have hx:=qop (by decide) hx;have:x∈[Value.string ⟨#[]⟩,.string ⟨#[]⟩]:=hx;simp at this;exact⟨_,this⟩
 cases zM:sa with
 |none=>
  have hm:=hs.zero zM;subst hm;have hn:news=[]:=au (by simpa using hs.len);subst hn;refine⟨v,w,?_,by simpa using gH,ha,⟨rfl,rfl,rfl,ji _,λ_ _ _=>rfl⟩⟩;rcases gH.2 with⟨rfl,rfl⟩|⟨g,cap,cur,rfl,h1,h2,h3,h4,h5,h6⟩
  ·simp[aE,bq ht,sizeOf,typeInfo,hi,bA,aL,loadCells,loadCellsFrom]
  ·simp[aE,bq ht,sizeOf,typeInfo,hi,bA,aL,loadCells,loadCellsFrom,storeCells,h3]
 |some ad=>
  have yO:=hs.cell ad zM;rcases gH.2 with⟨rfl,rfl⟩|⟨g,cap,cur,rfl,hbg,hg,IX,QI,gX,rM⟩
  ·have hx:xs=[]:=au (by simpa using gH.1);subst hx;by_cases hm:m=0
   ·subst hm;have hn:news=[]:=au (by simpa using hs.len);subst hn;refine⟨.slice none 0 0,w,?_,by simpa using gH,ha,⟨rfl,rfl,rfl,ji _,λ_ _ _=>rfl⟩⟩;simp[aE,bq ht,sizeOf,typeInfo,hi,bA,aL,loadCells,loadCellsFrom]
   ·have hr:=run_append_nil (P:=prog) w 47 ty 74 i _ ht hi hz ad m c news hl yO (by omega) (by omega) (by rw[Zu];omega);have CF:=grown 0 (by omega) (Value.ownBlock (.slice none 0 0));simp only[bG,List.nil_append,Array.empty_append]at CF⊢;exact⟨_,_,hr,CF.1,CF.2.1,CF.2.2⟩
  ·by_cases yM:n+m<=cap
   ·have yF:n*2+news.length<=cur.size:=by rw[hs.len,gX,<-Nat.add_mul];exact cx _ yM
    have hr:=run_append_room (P:=prog) w 47 ty 74 i ht hi g n cap cur hg ad m c news hl yO one yM (by rw[fC];exact yF);rw[fC]at hr;have hblk:=setRow_heap w g cur (cur.toList.take (n*2)++news++cur.toList.drop (n*2+news.length)).toArray 74 _ hg;refine⟨_,_,hr,⟨hlen,.inr ⟨g,cap,_,rfl,hbg,hblk,yM,QI,?_,?_⟩⟩,?_,⟨rfl,rfl,rfl,by simp,λk _ hk=>setRow_other w g k _ (λe=>hk (by simp[Value.ownBlock,e]))⟩⟩
    ·simp only[bw,cJ,aV,bX,Array.length_toList];omega
    ·rw[rM,<-hlen];exact List.take_left
    ·intro g' fO;cases fO;refine⟨_,_,hblk,λx hx=>?_⟩;obtain⟨um,TJ,h1,h2⟩:=ha g rfl;rw[hg]at h1;cases h1;rcases cn.1 hx with hx|hx
     ·rcases cn.1 hx with hx|hx
      ·exact h2 x (aQ hx)
      ·exact hs.str x hx
     ·exact h2 x (List.mem_of_mem_drop hx)
   ·have holds:∀j u,xs[j]?=some u->w.cell? ((⟨g,0,none⟩:Addr).add j)=some u:=gH.cells (g:=g) rfl;have hr:=run_append_grow (P:=prog) w 47 ty 74 i _ ht hi hz ⟨g,0,none⟩ n cap xs (by rw[fC];exact gH.1) holds ad m c news hl yO (by omega) (by omega) (growslice_fits (by omega) (by rw[Zu];omega));have CF:=grown cap (by omega) (Value.ownBlock (.slice (some ⟨g,0,none⟩) n cap));exact⟨_,_,hr,CF.1,CF.2.1,CF.2.2⟩
theorem zu {rest:List Oper} {a:Act} (QB:o.guard=none) (s x:cM)
  (ho:o.op=.call {callee:=.builtin .append,args:=#[s,x],argTypes:=#[47,47]})
  (es:a.eval s=v) (ex:a.eval x=.slice sa m c) (gH:w.ownsRow base 74 2 v n xs) (ha:kS w v) (hs:Src w sa m news) (hb:n+m<=1073741824) (kK:base<=w.heap.size)
  (h:∀v' w',w'.ownsRow base 74 2 v' (n+m) (xs++news)->kS w' v'->w.grownBy w' v.ownBlock->wpList prog ops Q rest (a.put o.dst v') w'):wpList prog ops Q (o::rest) a w:=
 wpList_plain QB λ_ hK=>by
  obtain⟨v',w',hr,h2,h3,h4⟩:=Ue (c:=c) o.type gH ha hs hb kK;unfold Oper.wp ai;simp only[ho,resolve,invoke,builtin,dI,dJ,Result.andThen_ok,bV,aZ,cN,es,ex,hr];exact hK _ _ (h v' w' h2 h3 h4)
end
theorem AJ:∀a b:Bs,Op.bytesLess a b=aj a b
 |[],[]=>rfl
 |[],_::_=>rfl
 |_::_,[]=>rfl
 |a::x,b::y=>by simp[Op.bytesLess,aj,AJ x y]
theorem Uy:∀{L:KV} {k:Bs} (i:Nat) (p:Bs×Bs),(∀(j:Nat) (q:Bs×Bs),j<i->L[j]?=some q->aj q.1 k=true)->L[i]?=some p->aj p.1 k=false->pF L k=i/\oM L k=(p.1==k)
 |[],_,_,_,_,h,_=>by simp at h
 |q::L,k,0,p,_,h,hp=>by
  simp at h;subst h;unfold pF oM;simp[hp]
 |q::L,k,i+1,p,hj,h,hp=>by
  have h0:=hj 0 q (by omega) rfl;obtain⟨h1,h2⟩:=Uy (L:=L) (k:=k) i p (λj q' Gh hq=>hj (j+1) q' (by omega) (by simpa using hq)) (by simpa using h) hp;unfold pF oM;rw[if_pos h0,if_pos h0,h1,h2];exact⟨rfl,rfl⟩
theorem at_end:∀{L:KV} {k:Bs},(∀(j:Nat) (q:Bs×Bs),L[j]?=some q->aj q.1 k=true)->pF L k=L.length/\oM L k=false
 |[],_,_=>⟨rfl,rfl⟩
 |q::L,k,h=>by
  have h0:=h 0 q rfl;obtain⟨h1,h2⟩:=at_end (L:=L) (k:=k) λj q' hq=>h (j+1) q' (by simpa using hq);unfold pF oM;rw[if_pos h0,if_pos h0,h1,h2];exact⟨rfl,rfl⟩
theorem Below.drewN' (h:bh B a w) (n:Nat):bh B a (w.drewN n):=⟨h.os,h.tape,h.output,h.size,h.block⟩
def NC (w:ae) (ix:Nat) (has:Bool) (e:dz) (w':ae):Prop:=e=.returned (.tuple #[.int .i64 ix,.bool has])/\bh w.heap.size w w'
section
variable {w:ae} {L:KV}
theorem at_nil (k:ByteArray):bB prog 51 #[.slice none 0 0,.string k] w (NC w 0 false):=by
 go_enter func51,ntmps51;go_wp2;refine wp_loop_rounds 1 ?_;rw[rounds_succ];go_wp2;go_ret2;exact⟨rfl,jg _ _⟩
theorem q7i (k:ByteArray) {g cap:Nat} (hc:∀j (p:Bs×Bs),L[j]?=some p->w.cell? ⟨g,j*2,none⟩=some (sv p.1)/\w.cell? ⟨g,j*2+1,none⟩=some (sv p.2)) (hl:L.length<=1073741824):bB prog 51 #[.slice (some ⟨g,0,none⟩) L.length cap,.string k] w (NC w (pF L k.data.toList) (oM L k.data.toList)):=by
 have HC:=Hd hc;clear hc;go_enter func51,ntmps51;go_wp2;go_loopw [10] (λi wr=>∃j:Nat,j<=L.length/\i=.int .i64 j/\Hid (∀(i:Nat) (q:Bs×Bs),i<j->L[i]?=some q->aj q.1 k.data.toList=true)/\bh w.heap.size w wr) (λi _=>L.length-(intOf i).toNat);case atStart=>exact⟨0,xzl _,rfl,Hd (λi q h=>by omega),jg _ _⟩
 case round=>
  obtain⟨j,hj,rfl,eH,hb⟩:=hrel;by_cases kR:j<L.length
  ·obtain⟨p,hp⟩:∃p,L[j]?=some p:=⟨_,bO kR⟩
   obtain⟨h0,h1⟩:=HC.o j p hp;have h0:=(hb.cell (xbl w _ h0)).trans h0;have h1:=(hb.cell (xbl w _ h1)).trans h1;have ek:p.1=(⟨p.1.toArray⟩:ByteArray).toList:=by rw[aX]
   have Jo:k.data.toList=k.toList:=by rw[aX]
   have gq:∀o,bh w.heap.size w (wr.alloc o):=λo=>hb.alloc hb.size _;cases rz:aj p.1 k.data.toList
   ·have hh:=Uy j p eH hp rz;have HH:=Hd hh;clear hh;have EO:=rz;rw[ek,Jo,<-AJ]at EO;have HE:Hid ((p.1==k.data.toList)=((⟨p.1.toArray⟩:ByteArray).toList==k.toList)):=by rw[<-ek,<-Jo];rfl
    clear rz ek Jo;unfold sv at h0 h1;generalize (⟨p.1.toArray⟩:ByteArray)=pk at*;generalize (⟨p.2.toArray⟩:ByteArray)=pv at*;go_wp2;go_quiet (fail);go_wp2;go_ret2;refine⟨?_,Below.drewN' (gq _) _⟩;rw[HH.1,HH.2,HE];rfl
   ·have EO:=rz;rw[ek,Jo,<-AJ]at EO;have HN:Hid (∀(i:Nat) (q:Bs×Bs),i<j+1->L[i]?=some q->aj q.1 k.data.toList=true):=λi q hi hq=>by
     rcases dH i j with h|h
     ·exact eH i q h hq
     ·obtain rfl:i=j:=by omega
      rw[hp]at hq;cases hq;exact rz
    clear rz ek Jo eH;unfold sv at h0 h1;generalize (⟨p.1.toArray⟩:ByteArray)=pk at*;generalize (⟨p.2.toArray⟩:ByteArray)=pv at*;go_wp2;go_roundw;case rel=>exact⟨j+1,by omega,rfl,HN,gq _⟩
    case measure=>simp[intOf];omega
  ·have hh:=at_end (L:=L) (k:=k.data.toList) λi q hq=>eH i q (by have:=(aW.1 hq).1;omega) hq;have HH:=Hd hh;clear hh eH;obtain rfl:j=L.length:=by omega
   go_wp2;go_ret2;refine⟨?_,hb⟩;rw[HH.1,HH.2];rfl
end
def zy (w:ae) (base:Nat) (v:ag) (L:KV):Prop:=w.ownsRow base 74 2 v L.length (flat L)/\kS w v
def Hu (w:ae) (L:KV) (e:dz) (w':ae):Prop:= ∃v,e=.returned v/\zy w' w.heap.size v L/\bh w.heap.size w w'
section
variable {w:ae} {L:KV}
theorem Ny {v:ag} (h:w.ownsRow 0 74 2 v L.length (flat L)) (hl:L.length<=1073741824) (k:ByteArray):bB prog 51 #[v,.string k] w (NC w (pF L k.data.toList) (oM L k.data.toList)):=by
 rcases h.2 with⟨rfl,hz⟩|⟨g,cap,cur,rfl,_⟩
 ·obtain rfl:L=[]:=au hz;exact at_nil k
 ·exact q7i k (λj p hp=>by
   obtain⟨h1,h2⟩:=flat_get L j p hp;have c1:=h.cells (g:=g) rfl _ _ h1;have c2:=h.cells (g:=g) rfl _ _ h2;rw[bF,bG]at c1 c2
   exact⟨c1,c2⟩) hl
theorem pI (k:ByteArray):sv k.data.toList=.string k:=by unfold sv;simp
theorem qw {b:ByteArray} {l:Bs} (h:b.data.toList=l):sv l=.string b:=by rw[<-h];exact pI b
theorem kS.alloc {v:ag} (h:kS w v) (o:Obj):kS (w.alloc o) v:=λg hg=>by
 obtain⟨cur,ty,h1,h2⟩:=h g hg;exact⟨cur,ty,(aS w o (zi h1).1).trans h1,h2⟩
theorem Src.one (w:ae) (a b:ByteArray) (ty:cU):Src (w.alloc (.cells #[.string a,.string b] ty)) (some ⟨w.heap.size,0,none⟩) 1 [.string a,.string b]:=by
 refine⟨rfl,λad e j u hj=>?_,λh=>(by cases h),λu hu=>by simp at hu;rcases hu with rfl|rfl<;>exact⟨_,rfl⟩⟩;cases e;rw[bF,bG];match j,hj with
 |0,hj=>simp at hj;subst hj;go_simp
 |1,hj=>simp at hj;subst hj;go_simp
structure CA (cb:Nat) (k x:ByteArray) (g:Bool) (w:ae):Prop where
 c0:w.cell? ⟨cb,0,none⟩=some (.string k)
 c1:w.cell? ⟨cb,1,none⟩=some (.string x)
 c2:w.cell? ⟨cb,2,none⟩=some (.bool g)
theorem CA.of {k x:ByteArray} {g:Bool} (hb:bh (w.alloc (.cells #[.string k,.string x,.bool g] ty)).heap.size (w.alloc (.cells #[.string k,.string x,.bool g] ty)) w1):CA w.heap.size k x g w1/\bh w.heap.size w w1/\w.heap.size<w1.heap.size:=
 ⟨⟨(hb.cell (p:=⟨w.heap.size,0,none⟩) (by simp)).trans (by go_simp),(hb.cell (p:=⟨w.heap.size,1,none⟩) (by simp)).trans (by go_simp),(hb.cell (p:=⟨w.heap.size,2,none⟩) (by simp)).trans (by go_simp)⟩,
  ((jg _ _).alloc (ji _) _).trans (hb.mono (by simp)),by have:=hb.size;simp at this;omega⟩
theorem CA.grown {k x:ByteArray} {g:Bool} {row:Option Nat} (h:CA cb k x g w) (hg:w.grownBy w1 row) (fA:some cb≠row):CA cb k x g w1:=
 ⟨hg.cell h.c0 fA,hg.cell h.c1 fA,hg.cell h.c2 fA⟩
theorem vo {v:ag} {base:Nat} (h:bh B a w) (hg:w.grownBy w1 v.ownBlock) (hr:w.ownsRow base 74 2 v n xs) (hb:B<=base) (hs:B<=w.heap.size):bh B a w1:=
 h.grown hg hs λj hj=>by have:=(hr.lt j hj).1;omega
theorem q9j {v:ag} {g cap:Nat} (hr:zy w 0 v L) (hv:v=.slice (some ⟨g,0,none⟩) L.length cap) (hb:bh w.heap.size w w') (i m:Nat) (him:i+m<=L.length):Src w' (some ⟨g,i*2,none⟩) m (flat ((L.drop i).take m)):=by
 subst hv;have h:=hr.1;refine⟨by rw[Lu,aV,bX];omega,λad e j u hj=>?_,λh=>(by cases h),λu hu=>Om hu⟩;cases e;rw[<-Oz,<-VU]at hj;have kR:j<m*2:=by
  have:=(aW.1 hj).1;rw[aV]at this;omega
 rw[bg kR,List.getElem?_drop]at hj;have hc:=h.cells (g:=g) rfl _ _ hj;rw[bF]at hc⊢;have hc:w.cell? ⟨g,i*2+j,none⟩=some u:=by simpa using hc
 exact(hb.cell (xbl w _ hc)).trans hc
theorem AB {b:Nat} {v:ag} {L:KV} (h:w.ownsRow b 74 2 v n xs) (ha:kS w v) (hB:B<=b) (e:xs=flat L):zy w B v L:=by
 have hn:n=L.length:=by have:=h.1;rw[e,Lu]at this;omega
 subst hn;subst e;exact⟨⟨h.1,h.2.imp id λ⟨g,cap,cur,h1,h2,h3⟩=>⟨g,cap,cur,h1,xlt hB h2,h3⟩⟩,ha⟩
theorem KP {g cap:Nat} (h:n<=cap):(if cap=i then(some ⟨g,0,none⟩:Option Addr)else some ⟨g,i*2,none⟩)=some ⟨g,i*2,none⟩\/n-i=0/\∃a,(if cap=i then(some ⟨g,0,none⟩:Option Addr)else some ⟨g,i*2,none⟩)=some a:=by
 by_cases hc:cap=i
 ·rw[if_pos hc];exact .inr ⟨by omega,_,rfl⟩
 ·rw[if_neg hc];exact .inl rfl
theorem Kr {g:Nat} (HS:∀w',bh w.heap.size w w'->∀i m,i+m<=L.length->Src w' (some ⟨g,i*2,none⟩) m (flat ((L.drop i).take m))) (hb:bh w.heap.size w w') (i:Nat) (hle:i<=L.length)
  (zM:sa=some ⟨g,i*2,none⟩\/(L.length-i=0/\∃a,sa=some a)):Src w' sa (L.length-i) (flat (L.drop i)):=by
 rcases zM with rfl|⟨h0,a,rfl⟩
 ·have:=HS w' hb i (L.length-i) (by omega);rwa [bZ (by rw[bX];exact ji _)]at this
 ·have hd:L.drop i=[]:=List.drop_eq_nil_of_le (by omega);rw[hd,h0];exact⟨rfl,λad e j u hj=>by simp[zF]at hj,λh=>(by cases h),λu hu=>by simp[zF]at hu⟩
theorem Src.nil {w:ae}:Src w none 0 []:=⟨rfl,λad e j u hj=>by simp at hj,λ_=>rfl,λu hu=>by cases hu⟩
theorem Wq (k x:ByteArray) (gone:Bool) {g cap ix:Nat} {has:Bool} (hr:zy w 0 (.slice (some ⟨g,0,none⟩) L.length cap) L) (yI:L.length<=cap) (hl:L.length<=1073741822) (wS:pF L k.data.toList=ix) (gQ:oM L k.data.toList=has) (hle:ix<=L.length) (eH:has=true->ix<L.length):
  bB prog 52 #[.slice (some ⟨g,0,none⟩) L.length cap,.agg #[.string k,.string x,.bool gone]] w (Hu w (DF L k.data.toList x.data.toList gone)):=by
 have rD:=λw' (hb:bh w.heap.size w w')=>Ny (w:=w') (L:=L) (v:=.slice (some ⟨g,0,none⟩) L.length cap) (by
  refine⟨hr.1.1,hr.1.2.imp id ?_⟩;rintro⟨g,cap,cur,h1,h2,h3,h4⟩
  exact⟨g,cap,cur,h1,h2,(hb.block g (zi h3).1).trans h3,h4⟩) (by omega) k
 rw[wS,gQ]at rD;have JG:=Hd rD;have iP:=λw' (hb:bh w.heap.size w w')=>q9j hr rfl hb;have Jy:=Hd iP;unfold DF;rw[wS,gQ];clear rD wS gQ iP;have HR:=Hd hr;clear hr;have HQ:Hid (0+ix+(L.length-ix)<=1073741824/\0+ix+(L.length-(ix+1))<=1073741824/\0+ix+1+(L.length-ix)<=1073741824/\0+ix+1+(L.length-(ix+1))<=1073741824):=by refine⟨?_,?_,?_,?_⟩<;>omega
 have HL:Hid (has=true->ix+1<=L.length):=eH;clear eH;cases has;case' true=>have Yu:ix+1<=L.length:=HL.o rfl
 all_goals cases gone
 all_goals
  go_enter func52,ntmps52;go_wp2_with (first
   |(go_at_call 51;refine(JG.o _ ((jg _ _).alloc (ji _) _)).mono ?_;rintro e w1 ⟨rfl,iq⟩;have H1:=Hd (CA.of iq);obtain⟨c0,c1,c2⟩:=H1.1;clear iq)
   |(at_builtin;refine zu (v:=.slice none 0 0) rfl (.const (.slice none 0 0)) (.tmp 17) rfl rfl rfl (bN _ w1.heap.size _ _) (kS.nil _) (Jy.o _ H1.2.1 0 ix (by omega)) (by omega) (ji _) ?_;intro v2 w2 fe yY gL;have H2:=Hd (H1.1.grown gL (λe=>by cases e));obtain⟨c20,c21,ZM⟩:=H2.o;have vV:=Hd (xlt (ji w1.heap.size) gL.size);have wV:=Hd fe;have vZ:=Hd yY;have iC:=Hd (H1.2.1.grown gL (aD H1.2.2) (λj hj=>by cases hj));clear fe yY gL)
   |(at_builtin;refine zu (v:=v2) rfl (.tmp 22) (.tmp 28) rfl rfl rfl (wV.alloc _) (vZ.alloc _) (Src.one w2 k x _) (by omega) (xlt vV.o (by simp)) ?_;intro v3 w3 fF qW jW;have EH:=Hd fF;have MH:=Hd qW;have oK:=Hd (vo (iC.alloc iC.size _) jW (wV.alloc _) (aD H1.2.2) (xlt iC.size (by simp)));have Mt:=Hd (xlt vV.o (xlt (by simp) jW.size));clear fF qW jW)
   |(at_builtin;refine zu (v:=v3) rfl (.tmp 33) (.tmp 36) rfl rfl rfl EH.o MH.o (Kr Jy.o oK.o ix hle (KP yI)) HQ.2.2.1 Mt.o ?_;intro v4 w4 gu qV nI;have jG:=vo oK.o nI EH.o (aD H1.2.2) oK.size;have uZ:=Hd (aN (aN gu qV) jG);clear gu qV nI jG)
   |(at_builtin;refine zu (v:=v3) rfl (.tmp 33) (.tmp 36) rfl rfl rfl EH.o MH.o (Kr Jy.o oK.o (ix+1) Yu (KP yI)) HQ.2.2.2 Mt.o ?_;intro v4 w4 gu qV nI;have jG:=vo oK.o nI EH.o (aD H1.2.2) oK.size;have uZ:=Hd (aN (aN gu qV) jG);clear gu qV nI jG)
   |(at_builtin;refine zu (v:=v2) rfl (.tmp 33) (.tmp 36) rfl rfl rfl wV.o vZ.o (Kr Jy.o iC.o ix hle (KP yI)) HQ.1 vV.o ?_;intro v4 w4 gu qV nI;have jG:=vo iC.o nI wV.o (aD H1.2.2) iC.size;have uZ:=Hd (aN (aN gu qV) jG);clear gu qV nI jG)
   |(at_builtin;refine zu (v:=v2) rfl (.tmp 33) (.tmp 36) rfl rfl rfl wV.o vZ.o (Kr Jy.o iC.o (ix+1) Yu (KP yI)) HQ.2.1 vV.o ?_;intro v4 w4 gu qV nI;have jG:=vo iC.o nI wV.o (aD H1.2.2) iC.size;have uZ:=Hd (aN (aN gu qV) jG);clear gu qV nI jG)
   )
  all_goals go_ret
  all_goals exact⟨v4,rfl,AB uZ.1.1 uZ.1.2 (aD H1.2.2) (by simp[Ib,D6,zF,pI];try rw[<-Ib,List.take_append_drop]),uZ.2⟩
theorem Vp (k x:ByteArray):bB prog 52 #[.slice none 0 0,.agg #[.string k,.string x,.bool false]] w (Hu w [(k.data.toList,x.data.toList)]):=by
 have JG:=Hd (λw'=>at_nil (w:=w') k);go_enter func52,ntmps52;go_wp2_with (first
  |(go_at_call 51;refine(JG.o _).mono ?_;rintro e w1 ⟨rfl,iq⟩;have H1:=Hd (CA.of iq);obtain⟨c0,c1,c2⟩:=H1.1;clear iq)
  |(at_builtin;refine zu (v:=.slice none 0 0) (sa:=none) (m:=0) (news:=[]) rfl (.const (.slice none 0 0)) (.tmp 17) rfl rfl rfl (bN _ w1.heap.size _ _) (kS.nil _) Src.nil (by omega) (ji _) ?_;intro v2 w2 fe yY gL;have H2:=Hd (H1.1.grown gL (λe=>by cases e));obtain⟨c20,c21,ZM⟩:=H2.o;have vV:=Hd (xlt (ji w1.heap.size) gL.size);have wV:=Hd fe;have vZ:=Hd yY;have iC:=Hd (H1.2.1.grown gL (aD H1.2.2) (λj hj=>by cases hj));clear fe yY gL)
  |(at_builtin;refine zu (v:=v2) rfl (.tmp 22) (.tmp 28) rfl rfl rfl (wV.alloc _) (vZ.alloc _) (Src.one w2 k x _) (by omega) (xlt vV.o (by simp)) ?_;intro v3 w3 fF qW jW;have EH:=Hd fF;have MH:=Hd qW;have oK:=Hd (vo (iC.alloc iC.size _) jW (wV.alloc _) (aD H1.2.2) (xlt iC.size (by simp)));have Mt:=Hd (xlt vV.o (xlt (by simp) jW.size));clear fF qW jW)
  |(at_builtin;refine zu (v:=v3) (sa:=none) (m:=0) (news:=[]) rfl (.tmp 33) (.tmp 36) rfl rfl rfl EH.o MH.o Src.nil (by omega) Mt.o ?_;intro v4 w4 gu qV nI;have jG:=vo oK.o nI EH.o (aD H1.2.2) oK.size;have uZ:=Hd (aN (aN gu qV) jG);clear gu qV nI jG)
  )
 all_goals go_ret
 all_goals exact⟨v4,rfl,AB uZ.1.1 uZ.1.2 (aD H1.2.2) (by simp[D6,zF,pI]),uZ.2⟩
end
end
end Go.Proofs.YtkpekiajdlolnabGreat
