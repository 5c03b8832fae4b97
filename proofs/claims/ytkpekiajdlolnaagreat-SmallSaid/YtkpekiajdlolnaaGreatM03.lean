/- PROVED: part 3 of the claim's ground. Conditions: those that each theorem names. -/
import Derived.Test.YtkpekiajdlolnaaGreatM02
import Derived.Conc.DeferLaws
import Derived.Conc.CompanyDraw
import Derived.Conc.Own3
import Derived.Conc.WgWords
import Derived.WalkKit
import Derived.Conc.LeavingOf
import Derived.Test.YtkpekiajdlolnaaGreatChecked
import Derived.LoopTactic
import Derived.Lib.Hide
import Derived.Outline
import Derived.Maps.Own
import Derived.StringKeys
import Derived.Maps.OwnOps
import Derived.Maps.OwnSet
import Derived.BigQuiet
import Derived.Deep.QuietTactic
import Derived.StillTailTactics
import Derived.Laws.AppendOwn
import Derived.OwnWalk
import Derived.Laws.Cover1
set_option linter.unusedVariables false
set_option linter.unusedSimpArgs false
set_option maxRecDepth 100000
set_option maxHeartbeats 16000000
variable{B c cb cl i id j kb n tb:Nat} {F O SB:Go.Proofs.YtkpekiajdlolnaaGreat.Sim.Blocks} {K:Go.Goroutine->Go.World->Prop} {Q:Go.Exit->Go.Act->Go.World->Prop} {R:Go.Value->Go.World->Prop} {Stop:Go.Proofs.YtkpekiajdlolnaaGreat.Sim.Blocks->Go.Proofs.YtkpekiajdlolnaaGreat.Sim.Blocks->Go.Goroutine->Go.World->Prop} {a w w' w1:Go.World} {ad:Go.Addr} {b fr gr:Go.Frame} {cs:List Go.Frame} {e:Go.Operand->Go.Value} {f:Go.FuncId} {g:Go.Goroutine} {gs:Array Go.Goroutine} {k k':List Go.Item} {l l':List (Nat×Go.Value)} {o:Go.Oper} {ops:Array Go.Oper} {q:Nat->Nat} {qy:Nat->Go.Proofs.YtkpekiajdlolnaaGreat.Sim.Blocks->Go.Value->Go.World->Prop} {s:ByteArray} {sa:Option Go.Addr} {sl:Option (Nat×Nat)} {t:Go.Trace} {xs:List Go.Value} {ρ:Go.Proofs.YtkpekiajdlolnaaGreat.Sim.Rel}
open Go.Proofs.Tryz
open Go.Region renaming wanted→aa,ready→ax
open Go renaming undef→ac,World→ae,Value→ag,execOp→ai,Frame→am,bytesBefore→ao,Goroutine→aq,yielded→aA,FuncId→aD,Program→aN,heap_alloc_old→aR,stepG→aW,maxLen→bi,run_underlying→bj,Trace→bp,MapEntry→bu,mem_ready→bE,getD_set_ne→bR,Calls→bU,wp_region_still_tail→bY,exitTo→cn,Operand→cw,TypeId→cG,Deferred→cY,callFunc→dc,Ending→dC
open Go.Act renaming mk→ah
open Array renaming getElem?_push→aj,replicate→bM,toList_append→cf
open Go.Conc renaming stepG_region_end→au,stepG_region→aC,stepG_seq→aE,aside_setCell→aX,stepG_value→bg,Leavers→bq,mem_listed→br,goes_go→bz,stepG_block→bB,seen_none→bF,stepG_enter→bT,stepG_inBlock→cj,stepG_skip→de
open Go.Frame renaming enter→aw,finish→dB
open Go.Region.linearise renaming go→ay
open List renaming eq_nil_of_length_eq_zero→az,mem_cons→aF,take_succ_cons→aI,drop_succ_cons→aJ,mem_of_mem_take→aP,length_take→aV,map_cons→aY,getElem?_take_of_lt→aZ,pairwise_cons→bd,size_toArray→bk,getElem?_eq_some_iff→bw,all_eq_true→bD,map_toArray→bH,length_drop→bI,take_of_length_le→bL,find?_cons→bN,mem_filter→bO,mem_append→bP,length→bQ,length_append→cr,map_nil→cx,append_assoc→cE,length_cons→cL,filter_cons→cN,range→cZ,mem_range→da,take_zero→dh,drop_zero→di
open Go.Builtin renaming append_→aG,firstCells→aL,zeroCells→aO,lenOf→bm,len_→bK,min_→dy,min2→dz
open Go.World renaming cell?→aH,frozen?→cg
open Option renaming map_eq_some_iff→aK,getD→cU,map_some→cW
open Nat renaming reduceAdd→aM,mul_le_mul_right→bX,zero_add→cz
open Go.Lit renaming string→aQ
open Bool renaming and_eq_true→aS,false_eq_true→cq,or_eq_true→cX
open Ne renaming symm→aU
open ByteArray renaming getElem_eq_getElem_data→bh
open UInt8 renaming lt_or_eq_of_le→bo
open Go.RowKit renaming Below→bC
namespace Go.Proofs.YtkpekiajdlolnaaGreat
namespace Ph
section
open Go Go.Conc Go.ConcN Sim
section
variable {X:Cx} {Fb:aD->Bool} {SB:Blocks} {Q:am->List am->ae->Prop}
inductive Way (k:List Item):am->am->Prop
 |land {f:am} {k':List Item}:f.mode=.run->(k'=k\/∃id,cn id k=some k')->Way k (wt f (st k')) (wt f k')
 |ret {f:am} {t t':List Item}:f.mode=.returning->Way k (wt f t) (wt f t')
theorem XH (h:k'=k\/∃id,cn id k=some k'):(st k').length<=(st k).length:=by
 rcases h with rfl|⟨id,h⟩
 ·exact jd _
 ·have:∀k,cn id k=some k'->(st k').length<=(sf k).length:=by
   intro k;induction k with
   |nil=>intro h;cases h
   |cons a k ih=>
    cases a with
    |inBlock yV=>
     intro h;have e:cn id (.inBlock yV::k)=if yV==id then some k else cn id k:=rfl
     rw[e]at h;rw[sf];split at h
     ·cases h;simp
     ·have:=ih h;rw[sG k];simp;omega
    |_=>
     intro h;rw[sf]
     ·exact ih h
     ·intro _ e;cases e
  have:=this k h;rw[sG k];simp;omega
theorem wG.out (hQ:wG k Q) {up gup:List am} (wX:Sw k fr up gr gup) (hq:Q fr (up++[c0]) w):up=[]/\gup=[]/\Way k fr gr:=by
 obtain⟨hc,ho⟩:=hQ _ _ _ hq;cases wX with
 |ret hm=>exact⟨rfl,rfl,.ret hm⟩
 | @above up f t t' h=>
  have:=congrArg bQ hc;simp at this
 | @bot f t t' h=>
  rcases ho with ho|⟨hm,k',ho,ol⟩
  ·exact⟨rfl,rfl,.ret ho⟩
  ·exfalso;have ho:t=st k':=ho;cases h with
   |code a u=>
    have h1:=congrArg bQ ho;have h2:=XH ol;simp at h1;omega
   |op _ _ _=>
    rw[sG k']at ho;injection ho with h _;cases h
theorem J5 (hf:FR X Fb true ρ fr fr):FR X Fb true ρ (wt fr []) (wt fr []):=⟨hf.fn,hf.same,hf.tmps,.nil,hf.defers,hf.mode,hf.run,hf.kind,hf.kind',hf.round⟩
theorem WR.self {Fb:aD->Bool} {sp:aD->Bool} (S:X.Set Fb true sp) {wc:ae} (hw:WN X ρ w wc) (hs:Same w wc) (d:Nat):WR X ρ (wc.at d) (wc.at d):=by
 obtain⟨τ0,_,k0⟩:=hw;refine⟨k0.fn,k0.inj,λ{a b} gJ=>?_,λ_ _=>rfl,λa ha=>absurd ha (S.wrs rfl a)⟩;obtain⟨o,o',k1,k2,k3⟩:=k0.heap gJ;exact⟨o,o',by show wc.heap[a]?=_;rw[hs.heap];exact k1,k2,k3⟩
def QI (X:Cx) (Fb:aD->Bool) (SB:Blocks) (k:List Item) (Q:am->List am->ae->Prop) (ρ:Rel) (gs:Array aq) (base:List am) (wc:ae) (sl:Option (Nat×Nat)) (t:bp):Prop:=
 ∃(N:Nat) (eZ:Array aq) (iF xM:am) (w2 mG:ae) (sl':Option (Nat×Nat)) (t':bp) (q':Nat->Nat) (ρ2:Rel),
    runNT X.P N (crowd gs wc sl) t=(.next (crowd eZ mG sl'),t')/\Q iF [c0] w2/\Way k iF xM/\eZ.size=gs.size/\eZ[0]?=some (G xM base)/\Same w2 mG/\FR X Fb true ρ2 (wt iF []) (wt iF [])/\WN X ρ2 w2 mG/\ρ.le ρ2/\NB w2/\
     bq X.P t' eZ q'/\yo SB mG eZ.size t'/\rQ SB (rng ρ2) (own X ρ2) mG
theorem ZN (oq:X.P'=X.P) (S:X.Set Fb true (λ_=>false)) (hQ:wG k Q):∀{fr:am} {cs:List am} {w:ae},lN X.P Q fr cs w->
  ∀{ρ:Rel} {gr:am} {up gup base:List am} {gs:Array aq} {wc:ae} {sl:Option (Nat×Nat)} {t:bp} {q:Nat->Nat},cs=up++[c0]->Sw k fr up gr gup->FR X Fb true ρ fr fr->FsR X Fb true ρ up up->WN X ρ w wc->Same w wc->NB w->Bot (fr::up)->
   gs[0]?=some (G gr (gup++base))->bq X.P t gs q->yo SB wc gs.size t->rQ SB (rng ρ) (own X ρ) wc->
   QI X Fb SB k Q ρ gs base wc sl t:=by
 intro fr cs w h;induction h with
 | @done fr cs w hq=>
  rintro ρ gr up gup base gs wc sl t q rfl wX hf hu hw hs hn hB h0 hL hP hF;obtain⟨rfl,rfl,ho⟩:=hQ.out wX hq;exact⟨0,gs,fr,gr,w,wc,sl,t,q,ρ,rfl,hq,ho,rfl,h0,hs,J5 hf,hw,ρ.le_refl,hn,hL,hP,hF⟩
 | @step fr cs w nf nc nw ne dL hm ih=>
  rintro ρ gr up gup base gs wc sl t q rfl wX hf hu hw hs hn hB h0 hL hP hF;obtain⟨hgo,key⟩:=Zl oq S hQ.mode dL hm hf hu hw hs hn hB;have FO:∀d,∃jo up1 nH oK w1 ρ1 es,aW X.P true (G gr (gup++base)) (wc.at d)=.go (G nH (oK++base)) (shf wc.tape (w.drawn,d) w1) es/\Aft k jo up1 nH oK/\
    (∃τ,(Agree w τ)/\jo=nf τ/\up1++[c0]=nc τ/\w1=nw τ)/\FR X Fb true ρ1 jo jo/\FsR X Fb true ρ1 up1 up1/\WR X ρ1 w1 (shf wc.tape (w.drawn,d) w1)/\ρ.le ρ1/\NB w1/\Bot (jo::up1)/\
    rP (rng ρ) (own X ρ) (wc.at d) (rng ρ1) (own X ρ1) (shf wc.tape (w.drawn,d) w1) es:=λd=>by
   obtain⟨jo,up1,w1,ρ1,es,e,hτ,h1,h2,h3,hle,h7,h8,ok⟩:=key d;have hwz:=WR.self S hw hs d;rcases q6y S (base:=base) wX hf hwz true hB hgo with⟨iF,wh,xM,OW,w2,oz,e1,e2,ha⟩|fI
   ·rw[e]at e1;injection e1 with a1 a2 a3;injection a1 with a1 a4;obtain rfl:=a1;obtain rfl:=List.append_cancel_right a4;obtain rfl:=a2;obtain rfl:=a3;exact⟨jo,up1,xM,OW,w1,ρ1,es,e2,ha,hτ,h1,h2,h3,hle,h7,h8,ok⟩
   ·exact absurd e (fI _ _ _)
  have jC:0<gs.size:=(kg h0).1;obtain⟨N,lq,a1,d,Jz,es,iX,t1,q1,hr,Uy,hz,pX,uM,uK,_⟩:=CZ (P:=X.P) (SB:=SB) (sl:=sl) h0 rfl hL hP λd=>by
   obtain⟨jo,up1,nH,oK,w1,ρ1,es,e,_,_,_,_,_,_,_,_,ok⟩:=FO d;have Br:rQ SB (rng ρ) (own X ρ) (wc.at d):=⟨hF.apart,hF.low,hF.own,hF.foot⟩
   have jK:=Br.step ok;exact⟨_,_,es,e,ok.size,λx hx=>⟨Gq (ok.ev x hx) jK.apart jK.foot,λy hy=>(Ki (ok.ev x hx) hy).1⟩⟩
  obtain⟨jo,up1,nH,oK,w1,ρ1,gY,e,ha,⟨τ,Vg,rfl,Dj,rfl⟩,h1,h2,h3,hle,h7,h8,ok⟩:=FO d;rw[e]at Uy;have oo:G nH (oK++base)=a1/\shf wc.tape (w.drawn,d) (nw τ)=Jz/\gY=es:=by
   injection Uy with a b c;exact⟨a,b,c⟩
  obtain⟨rfl,rfl,rfl⟩:=oo;have Br:rQ SB (rng ρ) (own X ρ) (wc.at d):=⟨hF.apart,hF.low,hF.own,hF.foot⟩
  have vS:=Br.step ok;have jX:Same (nw τ) (shf wc.tape (w.drawn,d) (nw τ)):=⟨rfl,rfl,rfl⟩
  have fin:∀{nH:am} {oK:List am},lq[0]?=some (G nH (oK++base))->Sw k (nf τ) up1 nH oK->QI X Fb SB k Q ρ gs base wc sl t:=λ{nH oK} pX iC=>by
   obtain⟨N',eZ,iF,xM,w2,mG,sl',t',q',ρ2,gu,hq,ho,wU,qX,mJ,g1,g3,g4,g5,qW,ou,jK⟩:=ih τ Vg (sl:=iX) Dj.symm iC h1 h2 (WN.of h3) jX h7 h8 pX uM uK vS;exact⟨N+N',eZ,iF,xM,w2,mG,sl',t',q',ρ2,runNT_trans _ hr gu,hq,ho,wU.trans hz,qX,mJ,g1,g3,Rel.le_trans hle g4,g5,qW,ou,jK⟩
  have uD:=hm τ Vg;rw[<-Dj]at uD;generalize nf τ=jo at*;cases ha with
  |sw iC=>exact fin pX iC
  |panic hp=>rcases h1.run with h|h<;>rw[hp]at h<;>cases h
  |ld hl=>
   cases hl with
   | @land f k' ol=>
    rcases h1.run with xD|xD
    ·have hq:=Sc hQ uD xD;exact⟨N,lq,wt f (st k'),wt f k',nw τ,_,iX,t1,q1,ρ1,hr,(by have:=(hQ _ _ _ hq).1;rw[this]at hq;exact hq),.land xD ol,hz,pX,jX,J5 h1,WN.of h3,hle,h7,uM,uK,vS⟩
    ·exact fin (oK:=[]) pX (.ret (f:=f) xD)
   | @late f o=>
    rcases h1.run with xD|xD
    ·have hq:=YJ hQ uD xD;exact⟨N,lq,wt f (st k),wt f k,nw τ,_,iX,t1,q1,ρ1,hr,(by have:=(hQ _ _ _ hq).1;rw[this]at hq;exact hq),.land xD (.inl rfl),hz,pX,jX,(show FR X Fb true ρ1 (wt f []) (wt f [])from J5 (fr:=wt f (.inRegion #[o] []::st k)) h1),WN.of h3,hle,h7,uM,uK,vS⟩
    ·exact fin (oK:=[]) pX (.ret (f:=f) xD)
end
structure Co (X:Cx) (Fb bl:aD->Bool) (SB:Blocks) (ρ:Rel) (gs:Array aq) (fr:am) (cs:List am) (w:ae) (t:bp) (q:Nat->Nat):Prop where
 g0:gs[0]?=some (G fr cs)
 leavers:bq X.P t gs q
 past:yo SB w gs.size t
 foot:rQ SB (rng ρ) (own X ρ) w
 fr:bl fr.fn=false->FR X Fb true ρ (wt fr []) (wt fr [])
 cs:∀c∈cs,bl c.fn=false->FR X Fb true ρ (wt c []) (wt c [])
 wr:WR X ρ w w
 nb:NB w
def Comes (X:Cx) (Fb bl:aD->Bool) (SB:Blocks) (ρ:Rel) (gs:Array aq) (w:ae) (sl:Option (Nat×Nat)) (t:bp) (cs:List am) (Z:am->ae->Prop):Prop:=
 ∃(eZ:Array aq) (eH:am) (w':ae) (sl':Option (Nat×Nat)) (t':bp) (q':Nat->Nat) (ρ':Rel),Runs X.P gs w sl t eZ w' sl' t'/\eZ.size=gs.size/\ρ.le ρ'/\Z eH w'/\Co X Fb bl SB ρ' eZ eH cs w' t' q'
section
variable {X:Cx} {Fb bl:aD->Bool} {SB:Blocks}
theorem Km {f:am} {t:List Item} (h:FR X Fb true ρ (wt f []) (wt f [])) (ht:IsR X Fb true ρ t t):FR X Fb true ρ (wt f t) (wt f t):=
 ⟨h.fn,h.same,h.tmps,ht,h.defers,h.mode,h.run,h.kind,h.kind',h.round⟩
theorem YK:wG k (Tgt b (st k) Q):=by
 rintro fr cs w ⟨hc,e,a,_,hl⟩;refine⟨hc,?_⟩;cases e with
 |normal=>obtain rfl:=hl;exact .inr ⟨rfl,k,rfl,.inl rfl⟩
 |exit id=>
  obtain⟨k',h1,rfl⟩:=hl;rw[Hq]at h1;obtain⟨k1,h2,rfl⟩:=aK.1 h1;exact .inr ⟨rfl,k1,rfl,.inr ⟨id,h2⟩⟩
 |ret=>obtain⟨todo,rfl⟩:=hl;exact .inl rfl
 |_=>exact hl.elim
theorem Rz (h:k'=k\/∃id,cn id k=some k'):k' <:+ k:=by
 rcases h with rfl|⟨id,h⟩
 ·exact List.suffix_refl _
 ·exact Tn h
theorem Yb {e:Exit} {a:Act} (h:Way k fr gr) (hl:yG b (st k) e a fr):yG b k e a gr:=by
 cases h with
 | @land f k' hm hk=>
  have key:∀k1,(k1=k\/∃id,cn id k=some k1)->wt f (st k')=b.at a (st k1)->wt f k'=b.at a k1:=λk1 h1 e=>by
   have e1:st k'=st k1:=congrArg Frame.todo e;have e2:=ja0 (Rz hk) (Rz h1) e1;subst e2;exact congrArg (wt · k') e
  cases e with
  |normal=>exact key k (.inl rfl) hl
  |exit id=>
   obtain⟨k2,h1,h2⟩:=hl;rw[Hq]at h1;obtain⟨k1,h3,rfl⟩:=aK.1 h1;exact⟨k1,h3,key k1 (.inr ⟨id,h3⟩) h2⟩
  |ret=>
   obtain⟨todo,hl⟩:=hl;have:f.mode=.returning:=congrArg Frame.mode hl;rw[hm]at this;cases this
  |_=>exact hl.elim
 | @ret f t t' hm=>
  cases e with
  |normal=>
   have:f.mode=.run:=congrArg Frame.mode hl;rw[hm]at this;cases this
  |exit id=>
   obtain⟨k2,h1,h2⟩:=hl;have:f.mode=.run:=congrArg Frame.mode h2;rw[hm]at this;cases this
  |ret=>
   obtain⟨todo,hl⟩:=hl;exact⟨t',congrArg (wt · t') hl⟩
  |_=>exact hl.elim
theorem Co.carry (oq:X.P'=X.P) (S:X.Set Fb true (λ_=>false))
  (h:Co X Fb bl SB ρ gs gr cs w t q) (wX:Sw k fr [] gr []) (hf:FR X Fb true ρ fr fr) (nP:fr.roundOf=none) (pV:∀e a w wc,Same w wc->Q e a w->Q e a wc)
  (hm:lN X.P (Tgt b (st k) Q) fr [c0] w):
  Comes X Fb bl SB ρ gs w sl t cs (λeH w'=>∃e a',Q e a' w'/\yG b k e a' eH):=by
 have hB:Bot [fr]:=by
  intro f hf;simp at hf;subst hf;exact nP
 obtain⟨N,eZ,iF,xM,w2,mG,sl',t',q',ρ2,hr,⟨_,e,a',hq,hl⟩,ho,hz,qX,hs,g1,g3,g4,g5,qW,ou,jK⟩:=ZN oq S YK hm (up:=[]) (gup:=[]) (base:=cs) rfl wX hf .nil (WN.of h.wr) (Same.refl w) h.nb hB h.g0 h.leavers h.past h.foot;refine⟨eZ,xM,mG,sl',t',q',ρ2,⟨N,hr⟩,hz,g4,⟨e,a',pV _ _ _ _ hs hq,Yb ho hl⟩,⟨qX,qW,ou,jK,?_,λc hc hb=>(h.cs c hc hb).mono g4,WR.self S g3 hs mG.drawn,?_⟩⟩
 ·intro _;cases ho<;>exact g1
 ·exact g5
theorem Co.code (oq:X.P'=X.P) (S:X.Set Fb true (λ_=>false)) {ρ:Rel} {gs:Array aq} {b:am} {a:Act} {c:Code} {k:List Item} {cs:List am} {w:ae} {sl:Option (Nat×Nat)} {t:bp} {q:Nat->Nat} {Q:Exit->Act->ae->Prop}
  (h:Co X Fb bl SB ρ gs (b.at a (.code c::k)) cs w t q) (iT:bl b.fn=false) (hc:codeOk X.P X.P Fb true c=true) (pI:Plain k Q) (pV:∀e a w wc,Same w wc->Q e a w->Q e a wc)
  (hp:∀τ,Agree w τ->c.wp X.P Q a (re w τ)):
  Comes X Fb bl SB ρ gs w sl t cs (λeH w'=>∃e a',Q e a' w'/\yG b k e a' eH):=by
 have hf:FR X Fb true ρ (b.at a (.code c::st k)) (b.at a (.code c::st k)):=Km (f:=b.at a []) (h.fr iT) (.cons (.code (by rw[oq];exact hc)) (IsR.st X Fb true ρ k));have hB:Bot [b.at a (.code c::st k)]:=by
  intro f hf;simp at hf;subst hf;rfl
 have hinv:Inv X Fb true (b.at a (.code c::st k)) [c0] w:=⟨ρ,_,[],[],w,rfl,hf,.nil,h.wr,h.nb,hB⟩
 have BL:Plain (st k) Q:=λe a w hq=>by
  have:=pI e a w hq;cases e with
  |exit id=>obtain⟨k',e⟩:=this;exact⟨st k',by rw[Hq,e];rfl⟩
  |_=>exact this
 have hm:=LC S hinv BL pV (b:=b) (k:=st k) (λτ ha=>hp τ ha b (st k) [c0]);exact h.carry oq S (fr:=b.at a (.code c::st k)) (.bot (f:=b.at a []) (.code (.code c) [])) hf rfl pV hm
theorem YI {P:aN} {Q:am->List am->ae->Prop} {jo:am} (h:lN P Q fr cs w) (hq:¬Q fr cs w) (hs:aW P true (G fr cs) w=.go (G jo cs) w #[]):lN P Q jo cs w:=by
 cases h with
 |done h=>exact absurd h hq
 |step nf nc nw ne h1 h2=>
  have e:aW P true (G fr cs) w=.go (G (nf w.tape) (nc w.tape)) (nw w.tape) (ne w.tape):=h1 w.tape (λ_ _ _=>rfl);rw[hs]at e;injection e with e1 e2 _;injection e1 with e1 e3;have:=h2 w.tape (λ_ _ _=>rfl);rw[<-e1,<-e2,<-e3]at this;exact this
theorem Co.op (oq:X.P'=X.P) (S:X.Set Fb true (λ_=>false)) {ρ:Rel} {gs:Array aq} {b:am} {a:Act} {ops:Array Oper} {i:Nat} {td:List Nat} {o:Oper} {k:List Item} {cs:List am} {w:ae} {sl:Option (Nat×Nat)} {t:bp} {q:Nat->Nat} {Q:Act->ae->Prop}
  (h:Co X Fb bl SB ρ gs (b.at a (.inRegion ops (i::td)::k)) cs w t q) (iT:bl b.fn=false) (ho:ops[i]?=some o) (fJ:l9 X.P X.P Fb true (Sim.bare o)=true) (dX:aa o (aA ops a.tmps)=true) (pV:∀a w wc,Same w wc->Q a w->Q a wc) {id:Nat}
  (hp:∀τ,Agree w τ->(Code.region id #[Sim.bare o] false).wp X.P (λe a' w'=>e=.normal/\Q a' w') a (re w τ)):
  Comes X Fb bl SB ρ gs w sl t cs (λeH w'=>∃a',Q a' w'/\eH=b.at a' (.inRegion ops td::k)):=by
 let K:List Item:=.inRegion ops td::k
 have Ol:l9 X.P X.P' Fb true (Sim.bare o)=true:=by rw[oq];exact fJ
 have fF:(#[Sim.bare o]:Array Oper).toList.all (l9 X.P X.P' Fb true)=true:=by simp[Ol]
 have hf0:FR X Fb true ρ (b.at a (.code (.region id #[Sim.bare o] false)::st K)) (b.at a (.code (.region id #[Sim.bare o] false)::st K)):=Km (f:=b.at a []) (h.fr iT) (.cons (.code fF) (IsR.st X Fb true ρ K));have fK:FR X Fb true ρ (b.at a (.inRegion #[Sim.bare o] [0]::st K)) (b.at a (.inRegion #[Sim.bare o] [0]::st K)):=Km (f:=b.at a []) (h.fr iT) (.cons (.inRegion [0] fF) (IsR.st X Fb true ρ K));have hB:Bot [b.at a (.code (.region id #[Sim.bare o] false)::st K)]:=by
  intro f hf;simp at hf;subst hf;rfl
 let Q':Exit->Act->ae->Prop:=λe a' w'=>e=.normal/\Q a' w'
 have Vm:∀e a w wc,Same w wc->Q' e a w->Q' e a wc:=λe a w wc hs h=>⟨h.1,pV _ _ _ hs h.2⟩
 have BL:Plain (st K) Q':=by rintro e a w ⟨rfl,_⟩;trivial
 have hinv:Inv X Fb true (b.at a (.code (.region id #[Sim.bare o] false)::st K)) [c0] w:=⟨ρ,_,[],[],w,rfl,hf0,.nil,h.wr,h.nb,hB⟩
 have hm:=LC S hinv BL Vm (b:=b) (k:=st K) (λτ ha=>hp τ ha b (st K) [c0]);have nR:lN X.P (Tgt b (st K) Q') (b.at a (.inRegion #[Sim.bare o] [0]::st K)) [c0] w:=by
  refine YI hm ?_ rfl;rintro⟨_,e,a',⟨rfl,_⟩,hl⟩;have:=congrArg Frame.todo (show b.at a (.code (.region id #[Sim.bare o] false)::st K)=b.at a' (st K)from hl);have h1:=congrArg bQ this;simp[Frame.at]at h1
 obtain⟨eZ,eH,w',sl',t',q',ρ',h1,h2,h3,⟨e,a',⟨rfl,hq⟩,hl⟩,h4⟩:=h.carry oq S (k:=K) (sl:=sl) (fr:=b.at a (.inRegion #[Sim.bare o] [0]::st K)) (.bot (f:=b.at a []) (.op rfl ho dX)) fK rfl Vm nR;exact⟨eZ,eH,w',sl',t',q',ρ',h1,h2,h3,⟨a',hq,hl⟩,h4⟩
inductive Sil (P:aN):am->List am->am->List am->Prop
 |refl (fr:am) (cs:List am):Sil P fr cs fr cs
 |step {fr jo iF:am} {cs eU zG:List am}:(∀w,aW P true (G fr cs) w=.go (G jo eU) w #[])->Sil P jo eU iF zG->Sil P fr cs iF zG
theorem Sil.runs {P:aN} {eH:am} {fU:List am} (hs:Sil P fr cs eH fU):∀{gs:Array aq} {w:ae} {sl:Option (Nat×Nat)} {t:bp} {q:Nat->Nat},gs[0]?=some (G fr cs)->bq P t gs q->yo SB w gs.size t->
  ∃(eZ:Array aq) (d:Nat) (sl':Option (Nat×Nat)) (t':bp) (q':Nat->Nat),Runs P gs w sl t eZ (w.at d) sl' t'/\eZ.size=gs.size/\eZ[0]?=some (G eH fU)/\bq P t' eZ q'/\yo SB (w.at d) eZ.size t':=by
 induction hs with
 |refl fr cs=>exact λ{gs w sl t q} h0 hL hP=>⟨gs,w.drawn,sl,t,q,⟨0,rfl⟩,rfl,h0,hL,hP⟩
 |step h1 _ ih=>
  intro gs w sl t q h0 hL hP;obtain⟨N,lq,a1,d,w1,es,iX,t1,q1,hr,hgo,hz,pX,uM,uK,_⟩:=CZ (P:=P) (SB:=SB) (sl:=sl) h0 rfl hL hP λd=>⟨_,_,_,h1 _,jd _,by simp⟩
  rw[h1]at hgo;injection hgo with e1 e2 e3;subst e1;subst e2;obtain⟨rX,d2,rz,t2,q2,Ba,pq,h02,hL2,hP2⟩:=ih (sl:=iX) pX uM uK;exact⟨rX,d2,rz,t2,q2,Runs.trans ⟨N,hr⟩ Ba,pq.trans hz,h02,hL2,hP2⟩
theorem Co.sil {eH:am} {fU:List am} (h:Co X Fb bl SB ρ gs fr cs w t q) (hs:Sil X.P fr cs eH fU)
  (hf:bl eH.fn=false->FR X Fb true ρ (wt eH []) (wt eH [])) (hc:∀c∈fU,bl c.fn=false->FR X Fb true ρ (wt c []) (wt c [])):
  ∃(eZ:Array aq) (d:Nat) (sl':Option (Nat×Nat)) (t':bp) (q':Nat->Nat),Runs X.P gs w sl t eZ (w.at d) sl' t'/\eZ.size=gs.size/\Co X Fb bl SB ρ eZ eH fU (w.at d) t' q':=by
 obtain⟨eZ,d,sl',t',q',h1,h2,h3,h4,h5⟩:=hs.runs (SB:=SB) (sl:=sl) h.g0 h.leavers h.past;exact⟨eZ,d,sl',t',q',h1,h2,⟨h3,h4,h5,⟨h.foot.apart,h.foot.low,h.foot.own,h.foot.foot⟩,hf,hc,⟨h.wr.fn,h.wr.inj,h.wr.heap,λ_ _=>rfl,h.wr.sh⟩,h.nb⟩⟩
end
def fbL:List Nat:=[13,14,15,16,17,18,19,21,24,25,26,27,28,29,30,31,32,33,34,35,36,37,38,39,40,41,42,43,44,46,48,50,51,52,53,54,55,56,57,58,59,60,61,62,63,64,65,66,67,72,73,74,75,76,77,78,79,80,81,82,83,84,85,86,87,88,89,90,91,92,93,112,113,114,115,116,117,118,119,120,121,122,123,129,130,131,132,133,134,135,136,137,138,139,140,141,142,143,144,145,146,147,148,149,150,151,152,153,154,155,156,157,158,159,160,161,162,163]
def UH:List Nat:=[53,89,90,121,122,123,138,139,140,145,146,147,148,149,150,151,152,153,154,155,157,158,159,160,161,162,163]
def fb (f:aD):Bool:=fbL.contains f
def fbP (f:aD):Bool:=UH.contains f
noncomputable def okf (P:aN) (b:aD->Bool) (wr:Bool) (f:Nat):Bool:=match P.funcs[f]? with
 |some fn=>match fn.body with
  |some c=>codeOk P P b wr c&&!(fn.name== "runtime.NumGoroutine")
  |none=>false
 |none=>false
theorem Gg {P:aN} {b:aD->Bool} {l:List Nat} {wr:Bool} (h:l.all (okf P b wr)=true) (f:aD) (hf:l.contains f=true):
  ∃fn c,P.funcs[f]?=some fn/\fn.body=some c/\codeOk P P b wr c=true/\(fn.name== "runtime.NumGoroutine")=false:=by
 rw[bD]at h;have:=h f (List.contains_iff_mem.1 hf);unfold okf at this;cases h1:P.funcs[f]? with
 |none=>rw[h1]at this;cases this
 |some fn=>
  rw[h1]at this;cases h2:fn.body with
  |none=>simp only[h2]at this;cases this
  |some c=>
   simp only[h2,aS,Bool.not_eq_true']at this;exact⟨fn,c,rfl,h2,this.1,this.2⟩
theorem P5:fbL.all (okf prog fb true)=true:=by kernel_rfl
theorem Qw:UH.all (okf prog fbP false)=true:=by kernel_rfl
def blG (f:aD):Bool:=[4,5,7,8,9,10,11,12,21,22].contains f
noncomputable def XG:Cx:=⟨prog,prog,λf=>fb f=true,λc=>codeOk prog prog fb true c=true,λ_=>False⟩
noncomputable def XW (Sh:Nat->Prop):Cx:=⟨prog,prog,λf=>fbP f=true,λc=>codeOk prog prog fbP false c=true,Sh⟩
theorem SV:prog.globals.size=0:=by kernel_rfl
theorem okXG:XG.Ok fb:=⟨rfl,λ_ h=>h,SV,λ_ _ _=>rfl,λ_ _ _=>rfl,λf hf=>by
 obtain⟨fn,c,h1,h2,_,h4⟩:=Gg P5 f hf
 exact⟨fn,fn,h1,h1,by rw[h2];rfl,by rw[h2];rfl,h4,h4⟩⟩
theorem L6:XG.Set fb true (λ_=>false):=⟨okXG,λ_=>Iff.rfl,λ_ _ h=>h,λf hf _=>by
 obtain⟨fn,c,h1,h2,h3,_⟩:=Gg P5 f hf
 exact⟨fn,c,h1,h1,h2,h3⟩⟩
theorem okXW (Sh:Nat->Prop):(XW Sh).Ok fbP:=⟨rfl,λ_ h=>h,SV,λ_ _ _=>rfl,λ_ _ _=>rfl,λf hf=>by
 obtain⟨fn,c,h1,h2,_,h4⟩:=Gg Qw f hf
 exact⟨fn,fn,h1,h1,by rw[h2];rfl,by rw[h2];rfl,h4,h4⟩⟩
theorem je8 (Sh:Nat->Prop):(XW Sh).Set fbP false (λ_=>false):=⟨okXW Sh,λ_=>Iff.rfl,(λh=>by cases h),λf hf _=>by
 obtain⟨fn,c,h1,h2,h3,_⟩:=Gg Qw f hf
 exact⟨fn,c,h1,h1,h2,h3⟩⟩
structure FOk (F O:Blocks) (w:ae):Prop where
 low:∀b,F b->b<w.heap.size
 own:∀b,O b->F b
theorem FOk.ext (h:FOk F O w) (e:Ext F w w1):FOk F O w1:=⟨λb hb=>xll (h.low b hb) e.size,h.own⟩
theorem FOk.quiet (h:FOk F O w) (d:Nat) {es:Array Event} (he:∀e∈es,EvF F O e):rP F O w F O {w with drawn:=w.drawn+d} es:=
 ⟨λ_ h=>h,λ_ h=>h,λ_ h=>.inl h,λ_ h=>.inl h,h.own,λ_ _ _=>rfl,jd _,h.low,⟨d,rfl⟩,rfl,rfl,rfl,he,id⟩
section
variable {P:aN} {main:Bool} {Stop:Blocks->Blocks->aq->ae->Prop} {F O:Blocks} {g g':aq} {w:ae}
theorem WG.ctl (hr:g.status=.running) (hF:FOk F O w) (hs:∀w1,aW P main g w1=.go g' w1 #[]) (k:WG P main Stop F O g' w):WG P main Stop F O g w:=
 WG.step hr λw1 e=>⟨F,O,g',w1,#[],hs w1,(hF.ext e).quiet 0 (by simp),k.ext e⟩
theorem WG.quiet (hr:g.status=.running) (hF:FOk F O w) (hs:∀w1,Ext F w w1->∃g' d es,aW P main g w1=.go g' {w1 with drawn:=w1.drawn+d} es/\(∀e∈es,EvF F O e)/\WG P main Stop F O g' {w1 with drawn:=w1.drawn+d}):WG P main Stop F O g w:=
 WG.step hr λw1 e=>by
  obtain⟨g',d,es,h1,h2,h3⟩:=hs w1 e;exact⟨F,O,g',_,es,h1,(hF.ext e).quiet d h2,h3⟩
variable {b:am} {a:Act} {k:List Item} {cs:List am} {ops:Array Oper} {i:Nat} {rest:List Nat} {o:Oper}
theorem WG.value (v:ag) (hF:FOk F O w) (ho:ops[i]?=some o) (hw:aa o (aA ops a.tmps)=true) (hk:b.kind≠.early)
  (hr:∀w1,Ext F w w1->(ai a.eval o).run P w1=.ok (.value v) w1/\∀e∈(ai a.eval o).events P w1 #[],EvF F O e)
  (n:WG P main Stop F O (G (b.at (a.put o.dst v) (.inRegion ops rest::k)) cs) w):WG P main Stop F O (G (b.at a (.inRegion ops (i::rest)::k)) cs) w:=
 WG.quiet rfl hF λw1 e=>⟨_,0,_,bg ho hw hk (hr w1 e).1,λe' he=>(hr w1 e).2 e' (br he),n.ext e⟩
theorem CR {F O:Blocks} (h:F ad.block):EvF F O ⟨.cell ad,false,false⟩:=⟨rfl,h,λh=>by cases h⟩
end
noncomputable def zo:Array Oper:=match Tryz.f69.body with
 |some (.seq _ (.region _ ops _))=>ops
 |_=>#[]
theorem kr {a:Addr} (h:w1.heap[a.block]?=w.heap[a.block]?):w1.cell? a=w.cell? a:=by unfold aH;rw[h]
structure Ae (F:Blocks) (kb cb fb tb cl i:Nat) (dp s t:ag) (w:ae):Prop where
 k:w.cell? ⟨kb,0,none⟩=some (.int .i64 i)
 c:w.cell? ⟨cb,0,none⟩=some (.pointer (some ⟨cl,0,none⟩))
 f:w.cell? ⟨fb,0,none⟩=some s
 t:w.cell? ⟨tb,0,none⟩=some t
 d:w.cell? ⟨cl,1+i*3+1,none⟩=some dp
 Fk:F kb
 Fc:F cb
 Ff:F fb
 Ft:F tb
 Fd:F cl
theorem Ae.ext {fb:Nat} {dp s t:ag} (h:Ae F kb cb fb tb cl i dp s t w) (e:Ext F w w1):Ae F kb cb fb tb cl i dp s t w1:=
 ⟨(kr (e.keep _ h.Fk)).trans h.k,(kr (e.keep _ h.Fc)).trans h.c,(kr (e.keep _ h.Ff)).trans h.f,(kr (e.keep _ h.Ft)).trans h.t,(kr (e.keep _ h.Fd)).trans h.d,h.Fk,h.Fc,h.Ff,h.Ft,h.Fd⟩
section
variable {kb cb fb tb cl i:Nat} {dp s t:ag}
def l7 (cl i:Nat) (dp s t:ag):Nat->ag
 |0=>.int .i64 i
 |1=>.pointer (some ⟨cl,0,none⟩)
 |2=>.int .i64 i
 |3=>.pointer (some ⟨cl,0,none⟩)
 |4=>.pointer (some ⟨cl,1,none⟩)
 |5=>.pointer (some ⟨cl,1+i*3,none⟩)
 |6=>.pointer (some ⟨cl,1+i*3+1,none⟩)
 |7=>dp
 |8=>s
 |_=>t
structure WkT (kb cb fb tb cl i C Wg:Nat) (dp s t:ag) (listed:Array Bool) (T:Array ag):Prop where
 size:T.size=18
 t1:T.getD 1 ac=.pointer (some ⟨cb,0,none⟩)
 t2:T.getD 2 ac=.pointer (some ⟨kb,0,none⟩)
 t3:T.getD 3 ac=.pointer (some ⟨fb,0,none⟩)
 t4:T.getD 4 ac=.pointer (some ⟨tb,0,none⟩)
 t5:T.getD 5 ac=.pointer (some ⟨C,0,none⟩)
 val:∀j,j<10->listed.getD j false=true->T.getD (6+j) ac=l7 cl i dp s t j
variable {C Wg:Nat} {listed:Array Bool} {T:Array ag} {F O:Blocks} {w:ae} {ds:List cY}
theorem wQ (h:j∈ax .any zo listed) (ho:zo[j]?=some o) (q:Nat) (e:Edge) (he:o.after[q]?=some e) (hb:Region.binds .any e=true):listed.getD e.on false=true:=by
 obtain⟨_,o',xA,fF⟩:=bE.1 h;rw[ho]at xA;cases xA;exact fF e (Array.mem_of_getElem? he) hb
theorem Qi (hi:i<4) (hT:WkT kb cb fb tb cl i C Wg dp s t listed T) (hw:Ae F kb cb fb tb cl i dp s t w) (hj:j<10) (hr:j∈ax .any zo listed):
  ∃o,zo[j]?=some o/\o.guard=none/\o.dst=some (6+j)/\(ai (ah T ds).eval o).run prog w=.ok (.value (l7 cl i dp s t j)) w/\∀e∈(ai (ah T ds).eval o).events prog w #[],EvF F O e:=by
 have e1:(ah T ds).eval (.tmp 1)=.pointer (some ⟨cb,0,none⟩):=hT.t1;have e2:(ah T ds).eval (.tmp 2)=.pointer (some ⟨kb,0,none⟩):=hT.t2;have e3:(ah T ds).eval (.tmp 3)=.pointer (some ⟨fb,0,none⟩):=hT.t3;have e4:(ah T ds).eval (.tmp 4)=.pointer (some ⟨tb,0,none⟩):=hT.t4;have dep:∀j',j'<10->listed.getD j' false=true->(ah T ds).eval (.tmp (6+j'))=l7 cl i dp s t j':=λj' h1 h2=>hT.val j' h1 h2;have Fa:((i:Int)<4):=by omega
 have k1:=hw.k;have k2:=hw.c;have k3:=hw.f;have k4:=hw.t;have k5:=hw.d;generalize (ah T ds).eval=e at*;have af:=λo (ho:zo[j]?=some o)=>wQ (listed:=listed) hr ho;clear hr;match j,hj with
 |0,_=>
  obtain⟨o,ho,dZ,hd,hg⟩:∃o,zo[0]?=some o/\o.op=.load 3 (.tmp 2)/\o.dst=some (6+0)/\o.guard=none:=⟨_,rfl,rfl,rfl,rfl⟩
  refine⟨o,ho,hg,hd,?_,?_⟩
  ·unfold ai;simp[go_sem,dZ,l7,e2,k1]
  ·unfold ai;simp[go_sem,dZ,e2,k1];exact CR hw.Fk
 |1,_=>
  obtain⟨o,ho,dZ,hd,hg⟩:∃o,zo[1]?=some o/\o.op=.load 28 (.tmp 1)/\o.dst=some (6+1)/\o.guard=none:=⟨_,rfl,rfl,rfl,rfl⟩
  refine⟨o,ho,hg,hd,?_,?_⟩
  ·unfold ai;simp[go_sem,dZ,l7,e1,k2]
  ·unfold ai;simp[go_sem,dZ,e1,k2];exact CR hw.Fc
 |2,_=>
  obtain⟨o,ho,dZ,hd,hg⟩:∃o,zo[2]?=some o/\o.op=.load 3 (.tmp 2)/\o.dst=some (6+2)/\o.guard=none:=⟨_,rfl,rfl,rfl,rfl⟩
  refine⟨o,ho,hg,hd,?_,?_⟩
  ·unfold ai;simp[go_sem,dZ,l7,e2,k1]
  ·unfold ai;simp[go_sem,dZ,e2,k1];exact CR hw.Fk
 |3,_=>
  have d1:=dep 1 (by omega) (af _ rfl 0 ⟨1,.data⟩ rfl rfl);simp only[l7,aM]at d1;obtain⟨o,ho,dZ,hd,hg⟩:∃o,zo[3]?=some o/\o.op=.nilCheck (.tmp 7)/\o.dst=some (6+3)/\o.guard=none:=⟨_,rfl,rfl,rfl,rfl⟩
  refine⟨o,ho,hg,hd,?_,?_⟩
  ·unfold ai;simp[go_sem,dZ,l7,d1]
  ·unfold ai;simp[go_sem,dZ,d1]
 |4,_=>
  have d3:=dep 3 (by omega) (af _ rfl 0 ⟨3,.data⟩ rfl rfl);simp only[l7,aM]at d3;obtain⟨o,ho,dZ,hd,hg⟩:∃o,zo[4]?=some o/\o.op=.fieldAddr 70 (.tmp 9) 1/\o.dst=some (6+4)/\o.guard=none:=⟨_,rfl,rfl,rfl,rfl⟩
  refine⟨o,ho,hg,hd,?_,?_⟩
  ·unfold ai;simp[go_sem,dZ,l7,d3]
  ·unfold ai;simp[go_sem,dZ,d3]
 |5,_=>
  have d4:=dep 4 (by omega) (af _ rfl 0 ⟨4,.data⟩ rfl rfl);simp only[l7,aM]at d4;have d2:=dep 2 (by omega) (af _ rfl 1 ⟨2,.data⟩ rfl rfl);simp only[l7,aM]at d2;obtain⟨o,ho,dZ,hd,hg⟩:∃o,zo[5]?=some o/\o.op=.indexAddr 67 (.tmp 10) (.tmp 8)/\o.dst=some (6+5)/\o.guard=none:=⟨_,rfl,rfl,rfl,rfl⟩
  refine⟨o,ho,hg,hd,?_,?_⟩
  ·unfold ai;simp[go_sem,dZ,l7,d4,d2,Fa]
  ·unfold ai;simp[go_sem,dZ,d4,d2,Fa,Instr.indexAt];intro e h4;omega
 |6,_=>
  have d5:=dep 5 (by omega) (af _ rfl 0 ⟨5,.data⟩ rfl rfl);simp only[l7,aM]at d5;obtain⟨o,ho,dZ,hd,hg⟩:∃o,zo[6]?=some o/\o.op=.fieldAddr 66 (.tmp 11) 1/\o.dst=some (6+6)/\o.guard=none:=⟨_,rfl,rfl,rfl,rfl⟩
  refine⟨o,ho,hg,hd,?_,?_⟩
  ·unfold ai;simp[go_sem,dZ,l7,d5]
  ·unfold ai;simp[go_sem,dZ,d5]
 |7,_=>
  have d6:=dep 6 (by omega) (af _ rfl 0 ⟨6,.data⟩ rfl rfl);simp only[l7,aM]at d6;obtain⟨o,ho,dZ,hd,hg⟩:∃o,zo[7]?=some o/\o.op=.load 63 (.tmp 12)/\o.dst=some (6+7)/\o.guard=none:=⟨_,rfl,rfl,rfl,rfl⟩
  refine⟨o,ho,hg,hd,?_,?_⟩
  ·unfold ai;simp[go_sem,dZ,l7,d6,k5]
  ·unfold ai;simp[go_sem,dZ,d6,k5];exact CR hw.Fd
 |8,_=>
  obtain⟨o,ho,dZ,hd,hg⟩:∃o,zo[8]?=some o/\o.op=.load 9 (.tmp 3)/\o.dst=some (6+8)/\o.guard=none:=⟨_,rfl,rfl,rfl,rfl⟩
  refine⟨o,ho,hg,hd,?_,?_⟩
  ·unfold ai;simp[go_sem,dZ,l7,e3,k3]
  ·unfold ai;simp[go_sem,dZ,e3,k3];exact CR hw.Ff
 |9,_=>
  obtain⟨o,ho,dZ,hd,hg⟩:∃o,zo[9]?=some o/\o.op=.load 9 (.tmp 4)/\o.dst=some (6+9)/\o.guard=none:=⟨_,rfl,rfl,rfl,rfl⟩
  refine⟨o,ho,hg,hd,?_,?_⟩
  ·unfold ai;simp[go_sem,dZ,l7,e4,k4]
  ·unfold ai;simp[go_sem,dZ,e4,k4];exact CR hw.Ft
 |_+10,h=>omega
end
theorem Lr (p p':Nat->Bool) (i:Nat) (h:∀j,j≠i->p' j=p j) (hp:p i=true) (ET:p' i=false):∀l:List Nat,l.Nodup->i∈l->l.countP p'+1=l.countP p
 |[],_,hi=>by cases hi
 |x::l,hn,hi=>by
  rw[List.nodup_cons]at hn;by_cases hx:x=i
  ·subst hx;have e:l.countP p'=l.countP p:=List.countP_congr λj hj=>by rw[h j (λe=>hn.1 (e▸hj))]
   simp[List.countP_cons,hp,ET,e]
  ·have:=Lr p p' i h hp ET l hn.2 ((aF.1 hi).resolve_left (λe=>hx e.symm));simp only[List.countP_cons,h x hx];omega
def cnt (listed:Array Bool):Nat:=(cZ 13).countP λj=>!listed.getD j true
theorem QD {listed:Array Bool} (hi:i<13) (hs:listed.size=13) (h:listed.getD i true=false):cnt (listed.setIfInBounds i true)+1=cnt listed:=by
 refine Lr _ _ i (λj hj=>?_) (by simpa using h) ?_ _ List.nodup_range (da.2 hi)
 ·rw[bR true (aU hj)]
 ·have:i<listed.size:=by omega
  simp[this]
theorem Yc:(cZ 13).all (λn=>match zo[n]? with|some o=>o.after.all λe=>decide (e.on<n)|none=>false)=true:=by kernel_rfl
theorem K9:zo.size=13:=rfl
theorem YV {listed:Array Bool} (hs:listed.size=13) (h:∃j,j<13/\listed.getD j true=false):ax .any zo listed≠[]:=by
 have hb:=Yc;rw[bD]at hb;have key:∀n,n<=13->(∀j,j<n->listed.getD j false=true)\/∃j,j∈ax .any zo listed:=by
  intro n;induction n with
  |zero=>intro _;exact .inl λj hj=>absurd hj (Nat.not_lt_zero _)
  |succ n ih=>
   intro hn;rcases ih (by omega)with h1|h1
   ·have eB:n<listed.size:=by omega
    cases hv:listed.getD n false with
    |true=>
     refine .inl λj hj=>?_;rcases Nat.lt_or_ge j n with h2|h2
     ·exact h1 j h2
     ·obtain rfl:j=n:=by omega
      exact hv
    |false=>
     refine .inr ⟨n,bE.2 ⟨?_,?_⟩⟩
     ·simp[eB]at hv⊢;exact hv
     ·have:=hb n (da.2 (by omega));cases ho:zo[n]? with
      |none=>rw[ho]at this;cases this
      |some o=>
       rw[ho]at this;refine⟨o,rfl,λe he _=>h1 _ ?_⟩;have:=(Array.all_eq_true_iff_forall_mem.1 this) e he;simpa using this
   ·exact .inr h1
 obtain⟨j,hj,MZ⟩:=h;rcases key 13 (jd _)with h1|⟨j',h1⟩
 ·have:=h1 j hj;have eB:j<listed.size:=by omega
  simp[eB]at this MZ;rw[this]at MZ;cases MZ
 ·exact List.ne_nil_of_mem h1
theorem go_open {listed:Array Bool} {fuel t:Nat} (h:ax .any zo listed≠[]):∃i t',i∈ax .any zo listed/\
  ay .any zo (fuel+1) t listed []=i::ay .any zo fuel t' (listed.setIfInBounds i true) []:=by
 have eB:t%(ax .any zo listed).length<(ax .any zo listed).length:=Nat.mod_lt _ (List.length_pos_iff.2 h);refine⟨(ax .any zo listed)[t%(ax .any zo listed).length],t/(ax .any zo listed).length,List.getElem_mem _,?_⟩;simp only[ay];change (match(ax .any zo listed)[t%(ax .any zo listed).length]? with
   |some i=>ay .any zo fuel (t/(ax .any zo listed).length) (listed.setIfInBounds i true) [i]
   |none=>[].reverse)=_
 rw[List.getElem?_eq_getElem eB];simp only[];rw[linearise_go_acc];rfl
theorem WG.keep {P:aN} {main:Bool} {F0:Blocks}:∀{F O:Blocks} {g:aq} {w:ae},WG P main Stop F O g w->(∀b,F0 b->F b/\¬O b/\b<w.heap.size)->
  ∀{w0:ae},Ext F0 w0 w->WG P main (λF O g w1=>Stop F O g w1/\Ext F0 w0 w1/\∀b,F0 b->F b/\¬O b/\b<w1.heap.size) F O g w:=by
 rintro F O g w ⟨r,h⟩;induction r generalizing F O g w with
 |leaf=>
  intro h0 w0 e0;exact WG.stop λw1 e=>⟨h w1 e,e0.trans (e.sub λb hb=>(h0 b hb).1),λb hb=>⟨(h0 b hb).1,(h0 b hb).2.1,xll (h0 b hb).2.2 e.size⟩⟩
 |node f ih=>
  intro h0 w0 e0;refine WG.step h.1 λw1 e=>?_;obtain⟨F',O',g',w',es,h1,h2,h3⟩:=h.2 w1 e;have e1:Ext F0 w0 w1:=e0.trans (e.sub λb hb=>(h0 b hb).1);have eB:∀b,F0 b->b<w1.heap.size:=λb hb=>xll (h0 b hb).2.2 e.size;exact⟨F',O',g',w',es,h1,h2,ih w1 h3 (λb hb=>⟨h2.sub b (h0 b hb).1,λho=>(h2.xV b ho).elim (h0 b hb).2.1 (λhle=>Nat.lt_irrefl _ (xll (eB b hb) hle)),xll (eB b hb) h2.size⟩)
   (e1.trans ⟨h2.size,λb hb=>h2.keep b (eB b hb) (h0 b hb).2.1⟩)⟩
theorem zm {T:Array ag} {v:ag} (h:j<T.size):(T.setIfInBounds j v).getD j ac=v:=by simp[h]
theorem qw {T:Array ag} {j':Nat} {v:ag} (h:j≠j'):(T.setIfInBounds j v).getD j' ac=T.getD j' ac:=by
 simp[xne h]
theorem q86 {listed:Array Bool} {t:Nat} (h:∀j,j∈ax .any zo listed->False):∀{fuel:Nat},ay .any zo fuel t listed []=[]
 |0=>rfl
 |fuel+1=>by
  have hr:ax .any zo listed=[]:=List.eq_nil_iff_forall_not_mem.2 h;simp only[ay];change (match(ax .any zo listed)[t%(ax .any zo listed).length]? with
    |some i=>ay .any zo fuel (t/(ax .any zo listed).length) (listed.setIfInBounds i true) [i]
    |none=>[].reverse)=_
  rw[hr];rfl
def AtRet (P:aN) (R:Blocks->ag->ae->Prop) (base:List am) (F O:Blocks) (g:aq) (w:ae):Prop:=
 FOk F O w/\∃v,R F v w/\g.status=.running/\∀c cs,base=c::cs->∀w1,aW P false g w1=.go (G (c.finish v) cs) w1 #[]
section
variable {kb cb fb tb cl i C Wg:Nat} {dp s t:ag} {listed:Array Bool} {T:Array ag} {ds:List cY}
theorem WkT.set (hT:WkT kb cb fb tb cl i C Wg dp s t listed T) (v:ag) (hv:j<10->v=l7 cl i dp s t j) (hj:6+j<18) (hl:listed.size=13):WkT kb cb fb tb cl i C Wg dp s t (listed.setIfInBounds j true) (T.setIfInBounds (6+j) v):=by
 refine⟨by simpa using hT.size,?_,?_,?_,?_,?_,λj' E8 h=>?_⟩
 ·rw[qw (by omega)];exact hT.t1
 ·rw[qw (by omega)];exact hT.t2
 ·rw[qw (by omega)];exact hT.t3
 ·rw[qw (by omega)];exact hT.t4
 ·rw[qw (by omega)];exact hT.t5
 ·by_cases e:j=j'
  ·subst e;rw[zm (by rw[hT.size];omega)];exact hv E8
  ·rw[qw (by omega)];rw[bR false e]at h;exact hT.val j' E8 h
variable {qy:Blocks->ag->ae->Prop} {F0:Blocks} {w0:ae} {b:am} {k:List Item} {cs:List am} {Stop:Blocks->Blocks->aq->ae->Prop}
theorem wReg (hi:i<4) (hk:b.kind≠.early) (ja:∀F v w w1,qy F v w->Ext F w w1->qy F v w1)
  (oJ:∀(c:am) (w1:ae),Ext F0 w0 w1->WG prog false (AtRet prog qy (c::cs)) F0 (λ_=>False) (G (aw prog 53 #[dp,s,t] .normal) (c::cs)) w1)
  (eP:∀F O w T v,FOk F O w->(∀b,F0 b->F b)->qy F v w->T.getD 16 ac=v->T.getD 17 ac=.pointer (some ⟨C,i,none⟩)->T.size=18->Stop F O (G (b.at ⟨T,ds⟩ (.inRegion zo [12]::k)) cs) w):
  ∀(fuel t':Nat) (listed:Array Bool) (T:Array ag) (F O:Blocks) (w:ae),listed.size=13->cnt listed=fuel->WkT kb cb fb tb cl i C Wg dp s t listed T->Ae F0 kb cb fb tb cl i dp s t w->FOk F O w->(∀b,F0 b->F b)->
   listed.getD 12 true=false->(listed.getD 10 false=true->qy F (T.getD 16 ac) w)->(listed.getD 10 false=false->F=F0/\O=(λ_=>False)/\Ext F0 w0 w)->(listed.getD 11 false=true->T.getD 17 ac=.pointer (some ⟨C,i,none⟩))->
   WG prog false Stop F O (G (b.at ⟨T,ds⟩ (.inRegion zo (ay .any zo fuel t' listed [])::k)) cs) w:=by
 intro fuel;induction fuel with
 |zero=>
  intro t' listed T F O w eY hc _ _ _ _ xL;exfalso;have:=QD (i:=12) (by omega) eY xL;omega
 |succ fuel ih=>
  intro t' listed T F O w eY hc hT gX hF iU xL kV UG pW;obtain⟨j,t2,hj,e⟩:=go_open (fuel:=fuel) (t:=t') (YV eY ⟨12,by omega,xL⟩);rw[e];have jO:listed.getD j true=false:=(bE.1 hj).1;have LP:j<13:=by
   obtain⟨_,o,ho,_⟩:=bE.1 hj;have:=(kg ho).1;rwa [K9]at this
  have gI:=QD LP eY jO;have si:(listed.setIfInBounds j true).size=13:=by simpa using eY
  have eG:∀{n:Nat} {d:Bool},n≠j->(listed.setIfInBounds j true).getD n d=listed.getD n d:=λh=>bR _ (aU h);rcases(by omega:j<10\/j=10\/j=11\/j=12)with h|rfl|rfl|rfl
  ·-- one of the first ten
   obtain⟨o,ho,hg,hd,hr,kJ⟩:=Qi (F:=F) (O:=O) (ds:=ds) hi hT (w:=w) ⟨gX.k,gX.c,gX.f,gX.t,gX.d,iU _ gX.Fk,iU _ gX.Fc,iU _ gX.Ff,iU _ gX.Ft,iU _ gX.Fd⟩ h hj;have dX:aa o (aA zo (ah T ds).tmps)=true:=by unfold aa;rw[hg]
   refine WG.value (l7 cl i dp s t j) hF ho dX hk (λw1 e1=>?_) ?_
   ·obtain⟨o',xA,_,_,gu,OG⟩:=Qi (F:=F) (O:=O) (ds:=ds) hi hT (w:=w1) (Ae.ext ⟨gX.k,gX.c,gX.f,gX.t,gX.d,iU _ gX.Fk,iU _ gX.Fc,iU _ gX.Ff,iU _ gX.Ft,iU _ gX.Fd⟩ e1) h hj;rw[ho]at xA;cases xA;exact⟨gu,OG⟩
   ·rw[hd];refine ih t2 _ _ F O w si (by omega) (hT.set _ (λ_=>rfl) (by omega) eY) gX hF iU (by rw[eG (by omega)];exact xL) (λh1=>?_) (λh1=>?_) (λh1=>?_)
    ·rw[eG (by omega)]at h1;show qy F ((T.setIfInBounds (6+j) _).getD 16 ac) w;rw[qw (by omega)];exact kV h1
    ·rw[eG (by omega)]at h1;exact UG h1
    ·rw[eG (by omega)]at h1;show(T.setIfInBounds (6+j) _).getD 17 ac=_;rw[qw (by omega)];exact pW h1
  ·-- the call
   have OV:listed.getD 10 false=false:=by
    have eB:10<listed.size:=by omega
    simp[eB]at jO⊢;exact jO
   obtain⟨rfl,rfl,e0⟩:=UG OV;obtain⟨o,ho,dZ,hd,hg⟩:∃o,zo[10]?=some o/\o.op=.call {callee:=.value (.func 53),args:=#[.tmp 13,.tmp 14,.tmp 15],argTypes:=#[63,9,9]}/\o.dst=some 16/\o.guard=none:=⟨_,rfl,rfl,rfl,rfl⟩
   have a7:=hT.val 7 (by omega) (wQ hj (o:=_) rfl 0 ⟨7,.data⟩ rfl rfl);have a8:=hT.val 8 (by omega) (wQ hj (o:=_) rfl 1 ⟨8,.data⟩ rfl rfl);have a9:=hT.val 9 (by omega) (wQ hj (o:=_) rfl 2 ⟨9,.data⟩ rfl rfl);have dX:aa o (aA zo (ah T ds).tmps)=true:=by unfold aa;rw[hg]
   have ev:∀w1,(ai (ah T ds).eval o).run prog w1=.ok (.enter 53 #[dp,s,t]) w1/\(ai (ah T ds).eval o).events prog w1 #[]=#[]:=λw1=>by
    have b7:(ah T ds).eval (.tmp 13)=dp:=a7;have b8:(ah T ds).eval (.tmp 14)=s:=a8;have b9:(ah T ds).eval (.tmp 15)=t:=a9;generalize he:(ah T ds).eval=e at*;have bf:e (.func 53)=.func (.func 53) #[] #[]:=by rw[<-he];rfl
    unfold ai;constructor
    ·simp[go_sem,dZ,b7,b8,b9,bf]
    ·simp[go_sem,dZ,b7,b8,b9,bf];simp[dc,go_sem,func53,Tryz.f53]
   have nJ:∀x,F x->F x/\¬(λ_=>False:Blocks) x/\x<w.heap.size:=λx hx=>⟨hx,λh=>h,hF.low x hx⟩
   refine WG.quiet rfl hF λw1 e1=>⟨_,0,_,bT ho dX hk (ev w1).1,λe' he=>?_,?_⟩
   ·have:=br he;rw[(ev w1).2]at this;simp at this
   refine WG.then (WG.keep (F0:=F) (oJ _ w1 (e0.trans e1)) (λx hx=>⟨hx,λh=>h,xll (hF.low x hx) e1.size⟩) (Ext.refl F w1)) ?_;rintro F1 O1 g1 w2 ⟨⟨vS,v,hv,eT,xU⟩,e2,jd3⟩;have OA:=gX.ext (e1.trans e2);refine WG.ctl eT vS (xU _ _ rfl) ?_;rw[Frame.finish_at,ho];show WG _ _ _ _ _ (G (b.at ((ah T ds).put o.dst v) _) cs) w2;rw[hd];refine ih t2 _ _ F1 O1 w2 si (by omega) (hT.set (j:=10) v (λh=>by omega) (by omega) eY) OA vS (λx hx=>(jd3 x hx).1) (by rw[eG (by omega)];exact xL) (λ_=>?_) (λh1=>?_) (λh1=>?_)
   ·show qy F1 ((T.setIfInBounds (6+10) v).getD 16 ac) w2;rw[zm (by rw[hT.size];omega)];exact hv
   ·have eB:10<listed.size:=by omega
    simp[eB]at h1
   ·rw[eG (by omega)]at h1;show(T.setIfInBounds (6+10) v).getD 17 ac=_;rw[qw (by omega)];exact pW h1
  ·-- the index
   have a0:=hT.val 0 (by omega) (wQ hj (o:=_) rfl 0 ⟨0,.data⟩ rfl rfl);have oC:=wQ hj (o:=_) rfl 11 ⟨10,.phase⟩ rfl rfl;obtain⟨o,ho,dZ,hd,hg⟩:∃o,zo[11]?=some o/\o.op=.indexAddr 134 (.tmp 5) (.tmp 6)/\o.dst=some 17/\o.guard=none:=⟨_,rfl,rfl,rfl,rfl⟩
   have dX:aa o (aA zo (ah T ds).tmps)=true:=by unfold aa;rw[hg]
   have Fa:((i:Int)<4):=by omega
   refine WG.value (.pointer (some ⟨C,i,none⟩)) hF ho dX hk (λw1 e1=>?_) ?_
   ·have b5:(ah T ds).eval (.tmp 5)=.pointer (some ⟨C,0,none⟩):=hT.t5;have b6:(ah T ds).eval (.tmp 6)=.int .i64 i:=a0;generalize he:(ah T ds).eval=e at*;unfold ai;constructor
    ·simp[go_sem,dZ,b5,b6,Fa]
    ·simp[go_sem,dZ,b5,b6,Fa,Instr.indexAt];intro e h4;omega
   ·rw[hd];refine ih t2 _ _ F O w si (by omega) (hT.set (j:=11) _ (λh=>by omega) (by omega) eY) gX hF iU (by rw[eG (by omega)];exact xL) (λh1=>?_) (λh1=>?_) (λ_=>?_)
    ·show qy F ((T.setIfInBounds (6+11) _).getD 16 ac) w;rw[qw (by omega)];exact kV oC
    ·rw[eG (by omega)]at h1;rw[oC]at h1;cases h1
    ·show(T.setIfInBounds (6+11) _).getD 17 ac=_;rw[zm (by rw[hT.size];omega)]
  ·-- the store
   have oC:=wQ hj (o:=_) rfl 1 ⟨10,.data⟩ rfl rfl;have rY:=wQ hj (o:=_) rfl 0 ⟨11,.data⟩ rfl rfl;have fF:∀j,j<12->listed.getD j false=true:=λj Oz=>by
    have ra:=λq e=>wQ hj (o:=_) rfl q e;match j,Oz with
    |0,_=>exact ra 3 ⟨0,.phase⟩ rfl rfl
    |1,_=>exact ra 4 ⟨1,.phase⟩ rfl rfl
    |2,_=>exact ra 5 ⟨2,.phase⟩ rfl rfl
    |3,_=>exact ra 6 ⟨3,.phase⟩ rfl rfl
    |4,_=>exact ra 7 ⟨4,.phase⟩ rfl rfl
    |5,_=>exact ra 8 ⟨5,.phase⟩ rfl rfl
    |6,_=>exact ra 9 ⟨6,.phase⟩ rfl rfl
    |7,_=>exact ra 10 ⟨7,.phase⟩ rfl rfl
    |8,_=>exact ra 11 ⟨8,.phase⟩ rfl rfl
    |9,_=>exact ra 12 ⟨9,.phase⟩ rfl rfl
    |10,_=>exact oC
    |11,_=>exact rY
   have Oo:ay .any zo fuel t2 (listed.setIfInBounds 12 true) []=[]:=q86 λj E8=>by
    have h1:=(bE.1 E8).1;have Wi:j<13:=by
     obtain⟨_,o,ho,_⟩:=bE.1 E8;have:=(kg ho).1;rwa [K9]at this
    by_cases Vy:j=12
    ·subst Vy;have eB:12<listed.size:=by omega
     simp[eB]at h1
    ·rw[bR true (aU Vy)]at h1;have h2:=fF j (by omega);have eB:j<listed.size:=by omega
     simp[eB]at h1 h2;rw[h1]at h2;cases h2
   rw[Oo];exact WG.stop λw1 e1=>eP F O w1 T _ (hF.ext e1) iU (ja _ _ _ _ (kV oC) e1) rfl (pW rY) hT.size
end
end
section
open Go.Conc Go.ConcN Go.RowKit Go.Conc.Lib Go.ConcR.Gen Go.ConcN.Gen Go Sim
open Go.ConcR (KK wgBlock WgAt stA smA rd wr mk Payload Aside2 DC0 ofEvent_cell)
instance:Payload:=⟨134⟩
abbrev fW:aD:=69
def bW:am:=baseD fW
noncomputable def sD:am:={(default:am)with fn:=prog.funcs.size,defers:=[],mode:=.panicking [goexitEntry]}
noncomputable def JS:Code:=Tryz.f69.body.getD .skip
theorem jei:(prog.funcs[bW.fn]?).any (·.norace)=false:=by kernel_rfl
def wE (Wg cb kb fb tb C:Nat):cY:={target:=.fn (.func fW) #[.pointer (some ⟨Wg,0,none⟩),.pointer (some ⟨cb,0,none⟩),.pointer (some ⟨kb,0,none⟩),.pointer (some ⟨fb,0,none⟩),.pointer (some ⟨tb,0,none⟩),.pointer (some ⟨C,0,none⟩)],args:=#[]}
theorem q97 (T:Array ag):QuitsD prog 2 0 (G {bW.at ⟨T,[]⟩ []with mode:=.returning} [sD]):=by
 refine QuitsD.ctl (g':=G sD []) rfl (λw=>?_) ?_
 ·simp[G,aW,unwind,doReturn,results,Frame.at,bW,baseD,sD,func69,Tryz.f69,seen,GStep.after,goexitEntry]
 refine QuitsD.ctl (g':={G sD []with status:=.finished}) rfl (λw=>?_) ⟨rfl,rfl⟩;simp[G,aW,unwind,sD,goexitEntry,Frame.catches];rfl
theorem Zj (Wg cb kb fb tb C:Nat) (w:ae):aW prog false (born prog (wE Wg cb kb fb tb C)) w=
  .go (G (bW.at ⟨#[.pointer (some ⟨Wg,0,none⟩),.pointer (some ⟨cb,0,none⟩),.pointer (some ⟨kb,0,none⟩),.pointer (some ⟨fb,0,none⟩),.pointer (some ⟨tb,0,none⟩),.pointer (some ⟨C,0,none⟩),ac,ac,ac,ac,ac,ac,ac,ac,ac,ac,ac,ac],[]⟩ [.code JS]) [sD]) w #[]:=by
 simp[born,wE,aW,unwind,callDeferred,invoke,dc,func69,Tryz.f69,seen,GStep.after,G,aw,Frame.at,bW,baseD,sD,JS]
section
variable {main:Bool} {b:am} {a:Act} {kk:List Item} {cs:List am} {w:ae} {ops:Array Oper} {i:Nat} {rest:List Nat} {o:Oper}
theorem ZV {x y:cw} (ho:ops[i]?=some o) (hw:aa o (aA ops a.tmps)=true) (hk:b.kind≠.early) (dZ:o.op=.store 29 x y) {u:ag} (hx:a.eval x=.pointer (some ad)) (hy:a.eval y=.slice sa n c) (hc:w.cell? ad=some u) (hz:w.frozen? ad=false) (hq:(prog.funcs[b.fn]?).any (·.norace)=false):
  aW prog main (G (b.at a (.inRegion ops (i::rest)::kk)) cs) w=.go (G (b.at (a.put o.dst ac) (.inRegion ops rest::kk)) cs) (w.setCell ad (.slice sa n c)) #[⟨.cell ad,true,false⟩]:=by
 have hr:(ai a.eval o).run prog w=.ok .skip (w.setCell ad (.slice sa n c)):=by
  unfold ai;simp only[dZ,hx,hy];simp[go_sem,stored,hc,hz]
 have he:(ai a.eval o).events prog w #[]=#[⟨.cell ad,true,false⟩]:=by
  unfold ai;simp only[dZ,hx,hy];simp[go_sem,storedEv,hc,hz]
 rw[stepG_none ho hw hk hr];unfold listed;rw[he,seen_eq hq (by simp)]
end
section
variable {C n i:Nat} {w:ae}
theorem q03 (hp:PayAt C n w) (hj:i<n):∃u,w.cell? ⟨C,i,none⟩=some u/\w.frozen? ⟨C,i,none⟩=false:=by
 obtain⟨arr,h1,h2⟩:=hp;exact⟨arr[i]'(by omega),by simp[aH,h1,h2,hj],by simp[cg,h1]⟩
end
theorem q0o:(Tryz.f70.name== "runtime.NumGoroutine")=false:=by kernel_rfl
section
variable {i C Wg:Nat}
theorem jfh (T:Array ag) (v:ag) (hK:WgLive link.tWg Wg w/\Has C i v w):
  Goes prog false (RW link.tWg Wg C 4 0 i) (DWs Wg oO oO C 4 (i+1)) (AtR0 prog link.tWg Wg C 4 0 (i+1) v) 26 (G (bW.at ⟨T,[dcall 70 #[.pointer (some ⟨Wg,0,none⟩)]]⟩ (.inRegion zo []::[])) [sD]) w:=by
 have hA:= @doneN _ link prog Gc oO oO Wg C 4 0 (i+1) v
 u_c au kn_rely hK
 u_c stepG_end kn_rely hK
 u_in kn_rely hK
 rw[stepG_unwind_enter rfl func70 q0o rfl];simp only[bz];refine⟨by u_nil,?_⟩
 walk_nrmf Tryz.f70
 simp only[body_done,doneFn,Option.getD_some]at hA;exact hA rfl (q97 T) _ hK
theorem ja9 {T:Array ag} {v:ag} (hi:i<4) (hCW:C≠Wg) (hR:qy i F v w) (hsl:∃sa n c,v=.slice sa n c) (Nq:T.getD 16 ac=v) (Np:T.getD 17 ac=.pointer (some ⟨C,i,none⟩)):
  CF prog link.tWg Wg C 4 qy i F O (G (bW.at ⟨T,[dcall 70 #[.pointer (some ⟨Wg,0,none⟩)]]⟩ (.inRegion zo [12]::[])) [sD]) w:=by
 refine⟨rfl,v,hR,λw1 e1 hp hl=>?_⟩;obtain⟨u,pF,sO⟩:=q03 (i:=i) hp hi;obtain⟨sa,n,c,rfl⟩:=hsl;obtain⟨o,ho,dZ,hd,hg⟩:∃o,zo[12]?=some o/\o.op=.store 29 (.tmp 17) (.tmp 16)/\o.dst=none/\o.guard=none:=⟨_,rfl,rfl,rfl,rfl⟩
 have dX:aa o (aA zo (ah T [dcall 70 #[.pointer (some ⟨Wg,0,none⟩)]]).tmps)=true:=by unfold aa;rw[hg]
 have hst:=ZV (main:=false) (b:=bW) (kk:=[]) (cs:=[sD]) (rest:=[]) ho dX (by decide) dZ (Np:(ah T _).eval (.tmp 17)=_) (Nq:(ah T _).eval (.tmp 16)=_) pF sO jei;have hK:=And.intro (let⟨st,sm,h⟩:=hl;(⟨st,sm,h.of_block ((aX _ ⟨C,i,none⟩ (.slice sa n c)).block Wg (aU hCW))⟩:WgLive link.tWg Wg (w1.setCell ⟨C,i,none⟩ (.slice sa n c)))) (q3r (i:=i) hp hi (.slice sa n c));rw[hd]at hst;exact⟨_,hst,26,jfh T _ hK⟩
theorem ZT:Region.departs zo=false:=by kernel_rfl
theorem YR {mixed:Bool} {t:Nat}:Region.schedule mixed zo t=ay .any zo 13 t (bM 13 false) []:=by
 unfold Region.schedule;rw[ZT];simp only[Bool.not_false,Bool.or_true,if_true];unfold Region.linearise;rw[K9]
theorem q66 {fb:Nat} {dp s t:ag} {F0:Blocks} (hi:i<4) (hCW:C≠Wg) (ja:∀F v w w1,qy i F v w->Ext F w w1->qy i F v w1) (hsl:∀F v w,qy i F v w->∃sa n c,v=.slice sa n c)
  (gX:Ae F0 kb cb fb tb cl i dp s t w) (hF:FOk F0 (λ_=>False) w)
  (oJ:∀(c:am) (cs:List am) (w1:ae),Ext F0 w w1->WG prog false (AtRet prog (qy i) (c::cs)) F0 (λ_=>False) (G (aw prog 53 #[dp,s,t] .normal) (c::cs)) w1):
  Script prog link.tWg Wg C 4 qy i F0 (born prog (wE Wg cb kb fb tb C)) w:=by
 refine⟨F0,λ_ h=>h,?_⟩;refine WG.ctl rfl hF (Zj Wg cb kb fb tb C) ?_;have hb:JS=.seq (.region 0 #[{dst:=none,op:=.defer {callee:=.value (.func 70),args:=#[.tmp 0],argTypes:=#[143]},type:=0,pos:= "cluster.go:120",after:=#[],guard:=none}] false) (.region 1 zo true):=rfl;rw[hb];refine WG.ctl rfl hF (λw1=>aE) ?_;refine WG.ctl rfl hF (λw1=>aC) ?_;refine WG.ctl rfl hF (λw1=>stepG_defer rfl rfl (by decide) rfl) ?_
 walk_nrm
 refine WG.ctl rfl hF (λw1=>au) ?_;refine WG.quiet rfl hF λw1 e1=>⟨_,1,#[],stepG_region_draw,by simp,?_⟩
 rw[YR];show WG _ _ _ _ _ (G (bW.at ⟨#[.pointer (some ⟨Wg,0,none⟩),.pointer (some ⟨cb,0,none⟩),.pointer (some ⟨kb,0,none⟩),.pointer (some ⟨fb,0,none⟩),.pointer (some ⟨tb,0,none⟩),.pointer (some ⟨C,0,none⟩),ac,ac,ac,ac,ac,ac,ac,ac,ac,ac,ac,ac],[dcall 70 #[.pointer (some ⟨Wg,0,none⟩)]]⟩ _) _) _;refine wReg (Stop:=CF prog link.tWg Wg C 4 qy i) (ds:=[dcall 70 #[.pointer (some ⟨Wg,0,none⟩)]]) (b:=bW) (k:=[]) (cs:=[sD]) (qy:=qy i) (F0:=F0) (w0:=w) (C:=C) (Wg:=Wg) hi (by decide) ja (λc w1 e=>oJ c [sD] w1 e)
  (λF O w T v _ _ hR Nq Np _=>ja9 hi hCW hR (hsl _ _ _ hR) Nq Np) 13 _ (bM 13 false) _ F0 (λ_=>False) _ rfl rfl ?_ (gX.ext ?_) (hF.ext ?_) (λ_ h=>h) rfl ?_ ?_ ?_
 ·refine⟨rfl,rfl,rfl,rfl,rfl,rfl,λj hj h=>?_⟩;have:(bM 13 false).getD j false=false:=by
   have LP:j<13:=by omega
   simp[LP]
  rw[this]at h;cases h
 ·exact⟨e1.size,e1.keep⟩
 ·exact⟨e1.size,e1.keep⟩
 ·intro h;cases h
 ·exact λ_=>⟨rfl,rfl,⟨e1.size,e1.keep⟩⟩
 ·intro h;cases h
end
end
end Ph
namespace Sim
open Go Go.Conc
def JQ (P:aN) (f:aD) (R:ag->ae->Prop) (fr:am) (cs:List am) (w:ae):Prop:=cs=[c0]/\fr.fn=f/\∃v,fr.leaving P w (.returned v)/\R v w
section
variable {X:Cx} {Fb:aD->Bool} {wr:Bool}
theorem qix (S:X.Set Fb wr (λ_=>false)) {args:Array ag} (hinv:Inv X Fb wr (aw X.P f args .normal) [c0] w) (hR:∀v w τ,R v (re w τ)->R v w)
  (hc:∀τ,Agree w τ->bU X.P f args (re w τ) fun|.returned v,w'=>R v w'|_,_=>False):lN X.P (JQ X.P f R) (aw X.P f args .normal) [c0] w:=by
 refine bar S (λfr cs w h=>?_) (λfr cs w τ hi ha h=>?_) hinv (λτ ha=>?_)
 ·obtain⟨-,-,v,h,-⟩:=h;intro ch e;rw[h.1]at e;cases e
 ·obtain⟨e,OD,v,⟨h1,h2,h3,fn,h4,h5⟩,hr⟩:=h;refine⟨e,OD,v,⟨h1,h2,h3,fn,h4,?_⟩,hR _ _ _ hr⟩;obtain⟨ρ,eH,up,up',w',e0,hf,-,hw,-,-⟩:=hi.re τ;rcases eT:(results fn fr.tmps).runT X.P (re w τ) #[]with⟨r0,gm⟩
  have h5':r0=.ok v (re w τ):=by rw[<-h5,<-Sem.runT_fst X.P _ _ #[],eT]
  subst h5';obtain⟨d1,d2,d3⟩:=(SS.results (f:=fn) S.ok hf.tmps).loc hw eT;have:=d3 w.tape (λi q hi=>(ha i q hi).symm);rw[<-Sem.runT_fst X.P _ _ #[]];have e:re (re w τ) w.tape=w:=rfl;rw[e]at this;rw[this];rfl
 ·obtain⟨e,w',fr,Ng,BX,uH,BV⟩:=hc τ ha [c0];cases e with
  |panicked chain=>exact Ng.elim
  |outgrown=>exact Ng.elim
  |returned v=>
   obtain⟨n,hn⟩:=BX;exact conv S (Q:=JQ X.P f R) ⟨rfl,uH,v,BV,Ng⟩ n (.inl (hinv.re τ)) hn
end
end Sim
namespace Ph
section
open Go Go.Conc Go.ConcN Sim
theorem WG.frame {P:aN} {main:Bool} {H:Blocks}:∀{F O:Blocks} {g:aq} {w:ae},WG P main Stop F O g w->(∀b,H b->b<w.heap.size)->
  WG P main (λF' O g w=>∃F,Stop F O g w/\(∀b,F' b↔F b\/H b)/\∀b,H b->b<w.heap.size) (λb=>F b\/H b) O g w:=by
 rintro F O g w ⟨r,h⟩;induction r generalizing F O g w with
 |leaf=>exact λhH=>WG.stop λw1 e=>⟨F,h w1 (e.sub λb hb=>.inl hb),λ_=>Iff.rfl,λb hb=>xll (hH b hb) e.size⟩
 |node f ih=>
  intro hH;refine WG.step h.1 λw1 e=>?_;obtain⟨F',O',g',w',es,h1,h2,h3⟩:=h.2 w1 (e.sub λb hb=>.inl hb);have Vn:∀b,H b->b<w1.heap.size:=λb hb=>xll (hH b hb) e.size;refine⟨λb=>F' b\/H b,O',g',w',es,h1,⟨λb hb=>hb.imp (h2.sub b) id,h2.Mq,λb hb=>?_,h2.xV,λb hb=>.inl (h2.own b hb),h2.keep,h2.size,λb hb=>hb.elim (h2.low b) λx=>xll (Vn b x) h2.size,h2.drawn,h2.tape,h2.os,h2.output,λx hx=>?_,h2.nb⟩,ih w1 h3 λb hb=>xll (Vn b hb) h2.size⟩
  ·rcases hb with hb|hb
   ·exact(h2.new b hb).imp .inl id
   ·exact .inl (.inr hb)
  ·have:=h2.ev x hx;obtain⟨loc,wt,sy⟩:=x;cases loc with
   |cell a=>exact⟨this.1,.inl this.2.1,this.2.2⟩
   |obj r=>exact⟨this.1,.inl this.2.1,this.2.2⟩
   |mark m=>cases m<;>exact this
   |_=>exact this
theorem RF {T:Array ag}:(results Tryz.f53 T).runT prog w #[]=(.ok (T.getD 6 ac) w,#[]):=by
 have e:Tryz.f53.results=#[.tmp 6]:=rfl;simp[results,e,go_sem]
theorem qmb {T:Array ag} {v:ag} (h:(results Tryz.f53 T).run prog w=.ok v w'):v=T.getD 6 ac:=by
 rw[<-Sem.runT_fst _ _ _ #[],RF]at h;injection h with h _;exact h.symm
theorem WV {fn:Func} (h:prog.funcs[f]?=some fn) (e:f=53):fn=Tryz.f53:=by
 rw[e,func53]at h;exact(xoi h).symm
def dm (db mb:Nat):Nat->Prop:=λb=>b=db\/b=mb
def rdm (db mb:Nat):Rel:=λa b=>a=b/\dm db mb a
def xY (db mb:Nat) (m:ag) (w:ae):ae:={w with heap:=w.heap.mapIdx λb o=>if b=db then .cells #[m] 130 (0,1)else if b=mb then o else .cells #[] 0}
section
variable {db mb:Nat} {es:Array bu} {clock:Nat} {s t:ByteArray} {F0:Blocks} {w1:ae} {R:ag->ae->Prop} {qy:Blocks->ag->ae->Prop}
theorem q00 (hF:FOk F0 (λ_=>False) w1) (Fq:F0 db) (MV:F0 mb) (eG:db≠mb) (hd:w1.heap[db]?=some (.cells #[.map (some mb)] 130 (0,0))) (hm:w1.heap[mb]?=some (.map es clock)) (iO:∀(F:aD->Prop) ρ,EsR F ρ es.toList es.toList)
  (uT:∀wl,wl.heap[db]?=some (.cells #[.map (some mb)] 130 (0,1))->wl.heap[mb]?=some (.map es clock)->bU prog 53 #[.pointer (some ⟨db,0,none⟩),.string s,.string t] wl fun|.returned v,w'=>R v w'|_,_=>False)
  (hR:∀v w τ,R v (re w τ)->R v w)
  (htr:∀ρ v v' w w',R v w->VR (λf=>fbP f=true) ρ v v'->WN (XW (dm db mb)) ρ w w'->qy (rng ρ) v' w') (hmono:∀F F' v w,qy F v w->(∀b,F b->F' b)->qy F' v w) (c:am) (cs:List am):
  WG prog false (AtRet prog qy (c::cs)) F0 (λ_=>False) (G (aw prog 53 #[.pointer (some ⟨db,0,none⟩),.string s,.string t] .normal) (c::cs)) w1:=by
 have S:=je8 (dm db mb);have eB:db<w1.heap.size:=(kg hd).1;have hltm:mb<w1.heap.size:=(kg hm).1;have i1:(xY db mb (.map (some mb)) w1).heap[db]?=some (.cells #[.map (some mb)] 130 (0,1)):=by
  simp only[xY,Array.getElem?_mapIdx,hd,cW,if_true]
 have i2:(xY db mb (.map (some mb)) w1).heap[mb]?=some (.map es clock):=by
  simp only[xY,Array.getElem?_mapIdx,hm,cW,if_neg (aU eG),if_true]
 have uq:WR (XW (dm db mb)) (rdm db mb) (xY db mb (.map (some mb)) w1) w1:=by
  refine⟨λh h'=>h.1.symm.trans h'.1,λh h'=>h.1.trans h'.1.symm,λ{a b} gJ=>?_,λ_ _=>rfl,λa ha=>?_⟩
  ·obtain⟨rfl,h|h⟩:=gJ
   ·subst h;exact⟨_,_,i1,hd,.cells (.cons (.map ⟨rfl,.inr rfl⟩) .nil) (.inr rfl)⟩
   ·subst h;exact⟨_,_,i2,hm,.map (iO _ _)⟩
  ·rcases ha with h|h
   ·subst h;exact .inl ⟨_,_,1,i1,by simp⟩
   ·subst h;exact .inr ⟨_,_,i2⟩
 have pM:NB (xY db mb (.map (some mb)) w1):=trivial;have ic:jy (λf=>fbP f=true) (rdm db mb) [.pointer (some ⟨db,0,none⟩),.string s,.string t] [.pointer (some ⟨db,0,none⟩),.string s,.string t]:=.cons (.ptr ⟨rfl,.inl rfl⟩) (.cons (.string s) (.cons (.string t) .nil));have hFb:(XW (dm db mb)).F 53:=by show fbP _=true;decide
 have jJ:FR (XW (dm db mb)) fbP false (rdm db mb) (aw prog 53 #[.pointer (some ⟨db,0,none⟩),.string s,.string t] .normal) (aw prog 53 #[.pointer (some ⟨db,0,none⟩),.string s,.string t] .normal):=Rf S hFb rfl ic;have hB:Bot [aw prog 53 #[.pointer (some ⟨db,0,none⟩),.string s,.string t] .normal]:=by
  intro f hf;simp at hf;subst hf;rfl
 have hinv:Inv (XW (dm db mb)) fbP false (aw prog 53 #[.pointer (some ⟨db,0,none⟩),.string s,.string t] .normal) [c0] (xY db mb (.map (some mb)) w1):=⟨rdm db mb,_,[],[],w1,rfl,jJ,.nil,uq,pM,hB⟩
 have Tz:=qix S hinv hR λτ _=>uT (re (xY db mb (.map (some mb)) w1) τ) i1 i2;have hQm:∀fr cs w,JQ prog 53 R fr cs w->∀ch,fr.mode≠.panicking ch:=λfr cs w ⟨_,_,v,h,_⟩ ch e=>by rw[h.1]at e;cases e
 have hgo:=jay S false (c::cs) hQm Tz (up:=[]) (up':=[]) rfl jJ .nil (WN.of uq) pM hB;have UJ:=WG.frame (H:=F0) hgo hF.low;have eF:(λb=>rng (rdm db mb) b\/F0 b)=F0:=by
  funext b;refine propext ⟨λh=>h.elim (λ⟨a,h1,h2⟩=>?_) id,.inr⟩;subst h1;rcases h2 with rfl|rfl
  ·exact Fq
  ·exact MV
 have eO:own (XW (dm db mb)) (rdm db mb)=λ_=>False:=by
  funext b;exact propext ⟨λ⟨a,h1,h2⟩=>h2 h1.2,False.elim⟩
 rw[eF,eO]at UJ;refine WG.then UJ ?_;rintro F' O g w ⟨F,hst,jK,nJ⟩;refine WG.stop λw2 e2=>?_;cases hst with
 |special _ h=>cases h
 | @done ρ fr eH up up' wl w' h1 h2 h3 h4 h5 h6=>
  obtain⟨hc,uH,v,nC,hr⟩:=h6;have nu:up=[]:=by
   have:=congrArg bQ hc;simp at this;exact az (by simpa using this)
  subst nu;cases h2;obtain⟨l1,l2,l3,fn,l4,l5⟩:=nC;have Vt:=h3.ext (e2.sub λb hb=>(jK b).2 (.inl hb));obtain rfl:=WV l4 uH;obtain rfl:=qmb l5;have hvr:VR (λf=>fbP f=true) ρ (fr.tmps.getD 6 ac) (eH.tmps.getD 6 ac):=jy.Ck h1.tmps 6;refine⟨⟨λb hb=>?_,λb hb=>?_⟩,eH.tmps.getD 6 ac,hmono _ _ _ _ (htr ρ _ _ _ _ hr hvr Vt) (λb hb=>(jK b).2 (.inl hb)),rfl,λc' fU e w3=>?_⟩
  ·rcases(jK b).1 hb with⟨a,gJ⟩|hb
   ·obtain⟨τ,_,k⟩:=Vt;obtain⟨o,o',_,k2,_⟩:=k.heap gJ;exact(kg k2).1
   ·exact xll (nJ b hb) e2.size
  ·obtain⟨a,gJ,_⟩:=hb;exact(jK b).2 (.inl ⟨a,gJ⟩)
  ·cases e;have m1:eH.mode=.returning:=h1.mode.trans l1;have m2:eH.defers=[]:=by
    have:=h1.defers;rw[l2]at this;generalize eH.defers=d at this;cases this;rfl
   have m3:prog.funcs[eH.fn]?=some Tryz.f53:=by
    rw[h1.fn,uH];exact func53
   show aW prog false (G eH (c::cs)) w3=_;rw[zx _ _ _ _ _ m1];obtain⟨Dv,Gd,TL,Ej,D7,D9,Pp⟩:=eH;obtain rfl:D9=.normal:=h1.kind';obtain rfl:Ej=[]:=m2;obtain rfl:D7=.returning:=m1;have m3:prog.funcs[Dv]?=some Tryz.f53:=m3;unfold unwind;dsimp only;rw[m3];dsimp only;rw[RF];rfl
end
end
section
open Go.Conc Go.ConcN Go.RowKit Go.Conc.Lib Go.ConcR.Gen Go.ConcN.Gen Go Sim
open Go.ConcR (KK wgBlock WgAt stA smA rd wr mk Payload Aside2 DC0 ofEvent_cell)
section
variable {P:aN} {ty:cG} {Wg:Nat} {F:Blocks} {w0:ae} {Stop:aq->ae->Prop}
theorem Yn:∀(m:Nat) {g:aq} {w:ae},Goes P true (RM ty Wg F) DC0 Stop m g w->Ext F w0 w->Goes P true (RM ty Wg F) DC0 (λg w=>Stop g w/\Ext F w0 w) m g w:=by
 intro m;induction m with
 |zero=>exact λh e w1 r=>⟨h w1 r,e.trans r.ext⟩
 |succ m ih=>
  intro g w h e;rcases h with h|⟨h1,h2⟩
  ·exact .inl λw1 r=>⟨h w1 r,e.trans r.ext⟩
  ·refine .inr ⟨h1,λw1 r=>?_⟩;have:=h2 w1 r;cases hs:aW P true g w1 with
   |go g' w' es=>
    rw[hs,bz]at this;rw[bz];refine⟨this.1,ih this.2 ?_⟩;obtain⟨rfl,_⟩:=this.1;exact e.trans r.ext
   |_=>rw[hs]at this;exact this.elim
theorem MG.keep (h:MG P ty Wg F Stop g w) (e:Ext F w0 w):MG P ty Wg F (λg w=>Stop g w/\Ext F w0 w) g w:=let⟨m,h⟩:=h;⟨m,Yn m h e⟩
theorem Zr {jZ:aq->ae->Prop} (hs:∀g w,Stop g w->jZ g w):∀(m:Nat) {g:aq} {w:ae},Goes P true (RM ty Wg F) DC0 Stop m g w->Goes P true (RM ty Wg F) DC0 jZ m g w:=by
 intro m;induction m with
 |zero=>exact λh w1 r=>hs _ _ (h w1 r)
 |succ m ih=>
  intro g w h;rcases h with h|⟨h1,h2⟩
  ·exact .inl λw1 r=>hs _ _ (h w1 r)
  ·refine .inr ⟨h1,λw1 r=>?_⟩;have:=h2 w1 r;cases hs:aW P true g w1 with
   |go g' w' es=>
    rw[hs,bz]at this;rw[bz];exact⟨this.1,ih this.2⟩
   |_=>rw[hs]at this;exact this.elim
theorem MG.mono {jZ:aq->ae->Prop} (h:MG P ty Wg F Stop g w) (hs:∀g w,Stop g w->jZ g w):MG P ty Wg F jZ g w:=let⟨m,h⟩:=h;⟨m,Zr hs m h⟩
theorem iH.keep {m:Mark} {K':aq->ae->Prop} (h:iH P m K g w) (hk:∀g,K g w->K' g w):iH P m K' g w:=
 ⟨h.1,let⟨g',h1,h2⟩:=h.2;⟨g',h1,hk _ h2⟩⟩
theorem q3h {v:ag} (hW:¬F Wg) (e:Ext F w0 w):Ext F w0 (w.setCell (stA Wg) v):=
 e.trans ⟨Nat.le_of_eq (aX w (stA Wg) v).size.symm,λb hb=>(aX w (stA Wg) v).block b λ(x:b=Wg)=>hW (by rw[<-x];exact hb)⟩
theorem Xr (hW:¬F Wg) (h:MG P ty Wg F (iH P .disable (MG P ty Wg F (tT P ty Wg F (MG P ty Wg F K)))) g w) (e:Ext F w0 w):
  MG P ty Wg F (iH P .disable (MG P ty Wg F (tT P ty Wg F (MG P ty Wg F (λg w=>K g w/\Ext F w0 w))))) g w:=by
 refine(h.keep e).mono λg w ⟨h1,e1⟩=>h1.keep λg h2=>(h2.keep e1).mono λg w ⟨h3,e3⟩=>⟨h3.1,λv hv hw=>?_⟩
 obtain⟨g',k1,k2⟩:=h3.2 v hv hw;have e4:Ext F w0 (w.setCell (stA Wg) (.int .u64 ((v+1)*KK))):=q3h hW e3;refine⟨g',k1,k2.imp (λ⟨a,b⟩=>⟨a,?_⟩) (λ⟨a,b⟩=>⟨a,?_⟩)⟩
 ·exact(b.keep e4).mono λg w ⟨b1,e5⟩=>b1.keep λg b2=>(b2.keep e5).mono λg w ⟨b3,e6⟩=>b3.keep λg b4=>b4.keep e6
 ·exact(b.keep e4).mono λg w ⟨b1,e5⟩=>b1.keep λg b4=>b4.keep e5
theorem Xq {K':aq->ae->Prop} (hs:∀g w,K g w->K' g w) (h:MG P ty Wg F (iH P .disable (MG P ty Wg F (tT P ty Wg F (MG P ty Wg F K)))) g w):
  MG P ty Wg F (iH P .disable (MG P ty Wg F (tT P ty Wg F (MG P ty Wg F K')))) g w:=
 h.mono λg w h1=>h1.keep λg h2=>h2.mono λg w h3=>⟨h3.1,λv hv hw=>by
  obtain⟨g',k1,k2⟩:=h3.2 v hv hw;refine⟨g',k1,k2.imp (λ⟨a,b⟩=>⟨a,?_⟩) (λ⟨a,b⟩=>⟨a,?_⟩)⟩
  ·exact b.mono λg w b1=>b1.keep λg b2=>b2.mono λg w b3=>b3.keep λg b4=>b4.mono hs
  ·exact b.mono λg w b1=>b1.keep λg b4=>b4.mono hs⟩
end
abbrev fS:aD:=45
def bS:am:=base fS
noncomputable def tO:Code:=Tryz.f45.body.getD .skip
noncomputable def yH:Code:=match tO with|.seq _ (.seq _ (.seq _ (.seq _ c)))=>c|_=>.skip
noncomputable def sL:Code:=match yH with|.seq (.seq _ (.block _ (.loop c))) _=>c|_=>.skip
noncomputable def sR:Code:=match yH with|.seq _ c=>c|_=>.skip
noncomputable def sIn:Code:=match sL with|.seq _ (.seq _ (.seq (.block _ c) _))=>c|_=>.skip
noncomputable def rg:Code->Array Oper|.region _ ops _=>ops|_=>#[]
noncomputable def R6:Array Oper:=match sL with|.seq a _=>rg a|_=>#[]
noncomputable def R10:Array Oper:=match sL with|.seq _ (.seq _ (.seq _ a))=>rg a|_=>#[]
noncomputable def R7:Array Oper:=match sIn with|.seq a _=>rg a|_=>#[]
noncomputable def R8:Array Oper:=match sIn with|.seq _ (.seq a _)=>rg a|_=>#[]
noncomputable def R9:Array Oper:=match sIn with|.seq _ (.seq _ a)=>rg a|_=>#[]
theorem je0:sL=.seq (.region 6 R6 false) (.seq (.cond (.tmp 19) .skip (.exit 0)) (.seq (.block 1 sIn) (.region 10 R10 false))):=rfl
theorem jam:sIn=.seq (.region 7 R7 false) (.seq (.region 8 R8 false) (.region 9 R9 false)):=rfl
structure ScT (kb cb fb tb C Wg:Nat) (T:Array ag):Prop where
 size:T.size=42
 t4:T.getD 4 ac=.pointer (some ⟨cb,0,none⟩)
 t5:T.getD 5 ac=.pointer (some ⟨fb,0,none⟩)
 t6:T.getD 6 ac=.pointer (some ⟨tb,0,none⟩)
 t10:T.getD 10 ac=.pointer (some ⟨C,0,none⟩)
 t11:T.getD 11 ac=.pointer (some ⟨Wg,0,none⟩)
 t12:T.getD 12 ac=.pointer (some ⟨kb,0,none⟩)
section
variable {kb cb fb tb C Wg:Nat} {T:Array ag} {F:Blocks} {w:ae} {k:List Item} {cs:List am}
def clW (Wg cb kb fb tb C:Nat):ag:=.func (.func fW) #[] #[.pointer (some ⟨Wg,0,none⟩),.pointer (some ⟨cb,0,none⟩),.pointer (some ⟨kb,0,none⟩),.pointer (some ⟨fb,0,none⟩),.pointer (some ⟨tb,0,none⟩),.pointer (some ⟨C,0,none⟩)]
def T9 (Wg cb kb fb tb C:Nat) (T:Array ag):Array ag:=(T.setIfInBounds 21 (.tuple #[])).setIfInBounds 22 (clW Wg cb kb fb tb C)
def JR (Wg cb kb fb tb C:Nat) (T:Array ag) (k:List Item) (cs:List am) (g:aq) (_:ae):Prop:=g=G (bS.at ⟨T9 Wg cb kb fb tb C T,[]⟩ (.inRegion R9 [1]::k)) cs
theorem YC (hT:ScT kb cb fb tb C Wg T) (w:ae):Goes prog true (RM link.tWg Wg F) DC0 (JR Wg cb kb fb tb C T k cs) 3
  (G (bS.at ((ah T []).put ((R8[0]?).bind (·.dst)) (.tuple #[])) (.inRegion R8 []::.code (.region 9 R9 false)::k)) cs) w:=by
 refine Goes.step rfl λw1 _=>?_;rw[au];simp only[bz];refine⟨⟨rfl,rfl⟩,?_⟩;refine Goes.step rfl λw2 _=>?_;rw[aC];simp only[bz];refine⟨⟨rfl,rfl⟩,?_⟩;show Goes _ _ _ _ _ 1 (G (bS.at ⟨T.setIfInBounds 21 (.tuple #[]),[]⟩ (.inRegion R9 [0,1]::k)) cs) w2;refine Goes.step rfl λw3 _=>?_;obtain⟨o,ho,dZ,hd,hg⟩:∃o,R9[0]?=some o/\o.op=.makeFunc (.func fW) #[] #[.tmp 11,.tmp 4,.tmp 12,.tmp 5,.tmp 6,.tmp 10]/\o.dst=some 22/\o.guard=none:=⟨_,rfl,rfl,rfl,rfl⟩
 have dX:aa o (aA R9 (ah (T.setIfInBounds 21 (.tuple #[])) []).tmps)=true:=by unfold aa;rw[hg]
 have ev:(ai (ah (T.setIfInBounds 21 (.tuple #[])) []).eval o).run prog w3=.ok (.value (clW Wg cb kb fb tb C)) w3/\(ai (ah (T.setIfInBounds 21 (.tuple #[])) []).eval o).events prog w3 #[]=#[]:=by
  have b4:(ah (T.setIfInBounds 21 (.tuple #[])) []).eval (.tmp 4)=_:=(qw (by omega)).trans hT.t4;have b5:(ah (T.setIfInBounds 21 (.tuple #[])) []).eval (.tmp 5)=_:=(qw (by omega)).trans hT.t5;have b6:(ah (T.setIfInBounds 21 (.tuple #[])) []).eval (.tmp 6)=_:=(qw (by omega)).trans hT.t6;have FH:(ah (T.setIfInBounds 21 (.tuple #[])) []).eval (.tmp 10)=_:=(qw (by omega)).trans hT.t10;have zK:(ah (T.setIfInBounds 21 (.tuple #[])) []).eval (.tmp 11)=_:=(qw (by omega)).trans hT.t11;have Jr:(ah (T.setIfInBounds 21 (.tuple #[])) []).eval (.tmp 12)=_:=(qw (by omega)).trans hT.t12;generalize (ah (T.setIfInBounds 21 (.tuple #[])) []).eval=e at*;unfold ai;constructor
  ·simp[go_sem,dZ,b4,b5,b6,FH,zK,Jr,clW]
  ·simp[go_sem,dZ,b4,b5,b6,FH,zK,Jr]
 rw[bg ho dX (by decide) ev.1];simp only[bz];refine⟨⟨rfl,?_⟩,?_⟩
 ·unfold listed;rw[ev.2,bF]
 ·rw[hd];exact λ_ _=>rfl
theorem atGo {Next:aq->ae->Prop} (hT:ScT kb cb fb tb C Wg T) (hg:JR Wg cb kb fb tb C T k cs g w)
  (hs:PayAt C 4 w->Script prog link.tWg Wg C 4 qy i F (born prog (wE Wg cb kb fb tb C)) w) (hn:Next (G (bS.at ⟨T9 Wg cb kb fb tb C T,[]⟩ (.inRegion R9 []::k)) cs) w):
  AtGoM prog link.tWg Wg C 4 qy i F Next g w:=by
 obtain rfl:=hg;obtain⟨o,ho,dZ,hd,Fe⟩:∃o,R9[1]?=some o/\o.op=.go {callee:=.value (.tmp 22),args:=#[],argTypes:=#[]}/\o.dst=none/\o.guard=none:=⟨_,rfl,rfl,rfl,rfl⟩
 have dX:aa o (aA R9 (ah (T9 Wg cb kb fb tb C T) []).tmps)=true:=by unfold aa;rw[Fe]
 have ev:(ai (ah (T9 Wg cb kb fb tb C T) []).eval o).run prog w=.ok (.spawn (wE Wg cb kb fb tb C)) w/\(ai (ah (T9 Wg cb kb fb tb C T) []).eval o).events prog w #[]=#[]:=by
  have VQ:(ah (T9 Wg cb kb fb tb C T) []).eval (.tmp 22)=clW Wg cb kb fb tb C:=zm (by simp[hT.size]);generalize (ah (T9 Wg cb kb fb tb C T) []).eval=e at*;unfold ai;constructor
  ·simp[go_sem,dZ,VQ,clW,wE,resolve,Deferred.ofValue]
  ·simp[go_sem,dZ,VQ,clW,resolve,Deferred.ofValue]
 have yX:=stepG_spawn (P:=prog) (main:=true) (b:=bS) (k:=k) (cs:=cs) (rest:=[]) ho dX (by decide) ev.1 (f:=.func fW) (c:=#[.pointer (some ⟨Wg,0,none⟩),.pointer (some ⟨cb,0,none⟩),.pointer (some ⟨kb,0,none⟩),.pointer (some ⟨fb,0,none⟩),.pointer (some ⟨tb,0,none⟩),.pointer (some ⟨C,0,none⟩)]) rfl;rw[hd]at yX;have hl:listed prog bS.fn (ah (T9 Wg cb kb fb tb C T) []) o w=#[]:=by unfold listed;rw[ev.2,bF]
 rw[hl]at yX;exact⟨rfl,_,_,yX,rfl,hs,hn⟩
theorem sAdd {Next:aq->ae->Prop} (hT:ScT kb cb fb tb C Wg T) (hW:¬F Wg) (hl:WgLive link.tWg Wg w)
  (hs:∀w1,Ext F w w1->PayAt C 4 w1->Script prog link.tWg Wg C 4 qy i F (born prog (wE Wg cb kb fb tb C)) w1) (hn:∀w1,Ext F w w1->Next (G (bS.at ⟨T9 Wg cb kb fb tb C T,[]⟩ (.inRegion R9 []::k)) cs) w1):
  MG prog link.tWg Wg F (iH prog .disable (MG prog link.tWg Wg F (tT prog link.tWg Wg F (MG prog link.tWg Wg F (AtGoM prog link.tWg Wg C 4 qy i F Next)))))
   (G (aw prog 68 #[.pointer (some ⟨Wg,0,none⟩),.int .i64 1] .normal) (bS.at ⟨T,[]⟩ (.inRegion R8 [0]::.code (.region 9 R9 false)::k)::cs)) w:=by
 have h1:=add1 (F:=F) Gc (K:=JR Wg cb kb fb tb C T k cs) (b₀:=bS) (a₀:=⟨T,[]⟩) (ops₀:=R8) (i₀:=0) (rest₀:=[]) (k₀:=.code (.region 9 R9 false)::k) (cs:=cs) (λw _=>YC hT w) w hl;have h2:=Xr hW h1 (Ext.refl F w);rw[enter_at _ func68 (show Tryz.f68.body=some (body_add link)from rfl)]
 walk_nrmf Tryz.f68
 exact Xq (λg w ⟨h,e⟩=>atGo hT h (hs w e) (hn w e)) h2
end
structure ScH (mo:ag) (cb fb tb C Wg i:Nat) (T:Array ag):Prop where
 size:T.size=42
 t4:T.getD 4 ac=.pointer (some ⟨cb,0,none⟩)
 t5:T.getD 5 ac=.pointer (some ⟨fb,0,none⟩)
 t6:T.getD 6 ac=.pointer (some ⟨tb,0,none⟩)
 t10:T.getD 10 ac=.pointer (some ⟨C,0,none⟩)
 t11:T.getD 11 ac=.pointer (some ⟨Wg,0,none⟩)
 t18:T.getD 18 ac=.int .i64 i
 t3:T.getD 3 ac=mo
theorem jeh:(prog.funcs[bS.fn]?).any (·.norace)=false:=by kernel_rfl
section
variable {mo:ag} {cb fb tb C Wg i:Nat} {T:Array ag} {F O:Blocks} {w:ae} {k:List Item} {cs:List am} {Stop:Blocks->Blocks->aq->ae->Prop}
theorem TP (hT:ScH mo cb fb tb C Wg i T) (hF:FOk F O w) {b:Bool} (hb:decide ((i:Int)<4)=b)
  (n:WG prog true Stop F O (G (bS.at ⟨T.setIfInBounds 19 (.bool b),[]⟩ (.code (if b then .skip else .exit 0)::.code (.seq (.block 1 sIn) (.region 10 R10 false))::k)) cs) w):
  WG prog true Stop F O (G (bS.at ⟨T,[]⟩ (.code sL::k)) cs) w:=by
 rw[je0];refine WG.ctl rfl hF (λw1=>aE) ?_;refine WG.ctl rfl hF (λw1=>aC) ?_;change WG _ _ _ _ _ (G (bS.at ⟨T,[]⟩ (.inRegion R6 [0]::_)) cs) w;obtain⟨o,ho,dZ,hd,hg⟩:∃o,R6[0]?=some o/\o.op=.binOp .lss 3 (.tmp 18) (.const (.int .i64 4)) 3/\o.dst=some 19/\o.guard=none:=⟨_,rfl,rfl,rfl,rfl⟩
 have dX:aa o (aA R6 (ah T []).tmps)=true:=by unfold aa;rw[hg]
 refine WG.value (.bool b) hF ho dX (by decide) (λw1 _=>?_) ?_
 ·have zI:(ah T []).eval (.tmp 18)=.int .i64 i:=hT.t18;have bc:(ah T []).eval (.const (.int .i64 4))=.int .i64 4:=rfl;generalize (ah T []).eval=e at*;unfold ai;constructor
  ·simp[go_sem,dZ,zI,bc,hb]
  ·simp[go_sem,dZ,zI,bc]
 rw[hd];change WG _ _ _ _ _ (G (bS.at ⟨T.setIfInBounds 19 (.bool b),[]⟩ (.inRegion R6 []::_)) cs) w;refine WG.ctl rfl hF (λw1=>au) ?_;refine WG.ctl rfl hF (λw1=>aE) ?_;have hc:(ah (T.setIfInBounds 19 (.bool b)) []).eval (.tmp 19)=.bool b:=zm (by rw[hT.size];omega);exact WG.ctl rfl hF (λw1=>stepG_cond hc) n
def grown (w:ae):ae:={w with heap:=w.heap.push (.cells #[.int .i64 0] 3)}
theorem TW (dZ:o.op=.alloc 3) (w:ae):(ai e o).run prog w=.ok (.value (.pointer (some ⟨w.heap.size,0,none⟩))) (grown w)/\(ai e o).events prog w #[]=#[]:=by
 unfold ai;constructor
 ·simp[go_sem,dZ,grown,Instr.alloc]
 ·simp[go_sem,dZ,Instr.alloc]
theorem jau {x y:cw} {n:Int} {u:ag} (dZ:o.op=.store 3 x y) (hx:e x=.pointer (some ad)) (hy:e y=.int .i64 n) {w:ae} (hc:w.cell? ad=some u) (hz:w.frozen? ad=false):
  (ai e o).run prog w=.ok .skip (w.setCell ad (.int .i64 n))/\(ai e o).events prog w #[]=#[⟨.cell ad,true,false⟩]:=by
 unfold ai;simp only[dZ,hx,hy];constructor
 ·simp[go_sem,stored,hc,hz]
 ·simp[go_sem,storedEv,hc,hz]
theorem Li {w:ae}:(grown w).heap.size=w.heap.size+1:=by
 show(w.heap.push _).size=_;rw[Array.size_push]
theorem Rt (hF:FOk F O w):rP F O w (λb=>F b\/b=w.heap.size) (λb=>O b\/b=w.heap.size) (grown w) #[]:=
 ⟨λ_ h=>.inl h,λ_ h=>.inl h,λb h=>h.imp id (λe=>by rw[e];exact jd _),λb h=>h.imp id (λe=>by rw[e];exact jd _),λb h=>h.imp (hF.own b) id,λb hb _=>by
  show(w.heap.push _)[b]?=_;rw[aj,if_neg (Nat.ne_of_lt hb)],by rw[Li];omega,
  λb h=>by
   rw[Li];rcases h with h|h
   ·exact Nat.lt_succ_of_lt (hF.low b h)
   ·omega,⟨0,rfl⟩,rfl,rfl,rfl,by simp,NB.push λ_ _ e=>by cases e⟩
theorem Zp:(grown w).cell? ⟨w.heap.size,0,none⟩=some (.int .i64 0)/\(grown w).frozen? ⟨w.heap.size,0,none⟩=false:=by
 have h:(grown w).heap[w.heap.size]?=some (.cells #[.int .i64 0] 3):=by
  show(w.heap.push _)[_]?=_;rw[aj,if_pos rfl]
 constructor
 ·simp[aH,h]
 ·simp[cg,h]
theorem TT {w:ae} {v:ag} (hF:FOk F O w) (hk:O kb):rP F O w F O (w.setCell ⟨kb,0,none⟩ v) #[⟨.cell ⟨kb,0,none⟩,true,false⟩]:=by
 have hA:=aX w ⟨kb,0,none⟩ v;refine⟨λ_ h=>h,λ_ h=>h,λ_ h=>.inl h,λ_ h=>.inl h,hF.own,λb _ hb=>hA.block b λ(e:b=kb)=>hb (e▸hk),Nat.le_of_eq hA.size.symm,λb h=>by rw[hA.size];exact hF.low b h,⟨0,?_⟩,hA.tape,hA.os,hA.output,λe he=>?_,λ_=>trivial⟩
 ·unfold World.setCell;rfl
 ·rw[Array.mem_singleton]at he;subst he;exact⟨rfl,hF.own _ hk,λ_=>hk⟩
def T7 (i kb:Nat) (T:Array ag):Array ag:=((T.setIfInBounds 19 (.bool true)).setIfInBounds 20 (.int .i64 i)).setIfInBounds 12 (.pointer (some ⟨kb,0,none⟩))
theorem Sq {F O F' O':Blocks} {w:ae} {es:Array Event} (h:rP F O w F' O' w' es):FOk F' O' w':=⟨h.low,h.own⟩
theorem je1 (hT:ScH mo cb fb tb C Wg i T) (hF:FOk F O w)
  (n:∀(kb:Nat) (w3:ae),Ext F w w3->w.heap.size<=kb->w3.cell? ⟨kb,0,none⟩=some (.int .i64 i)->FOk (λb=>F b\/b=kb) (λb=>O b\/b=kb) w3->WG prog true Stop (λb=>F b\/b=kb) (λb=>O b\/b=kb)
   (G (bS.at ⟨T7 i kb T,[]⟩ (.inRegion R8 [0]::.code (.region 9 R9 false)::k)) cs) w3):
  WG prog true Stop F O (G (bS.at ⟨T.setIfInBounds 19 (.bool true),[]⟩ (.code sIn::k)) cs) w:=by
 rw[jam];refine WG.ctl rfl hF (λw1=>aE) ?_;refine WG.ctl rfl hF (λw1=>aC) ?_;change WG _ _ _ _ _ (G (bS.at ⟨T.setIfInBounds 19 (.bool true),[]⟩ (.inRegion R7 [0,1,2]::_)) cs) w;obtain⟨o,ho,dZ,hd,hg⟩:∃o,R7[0]?=some o/\o.op=.move (.tmp 18)/\o.dst=some 20/\o.guard=none:=⟨_,rfl,rfl,rfl,rfl⟩
 have dX:aa o (aA R7 (ah (T.setIfInBounds 19 (.bool true)) []).tmps)=true:=by unfold aa;rw[hg]
 refine WG.value (.int .i64 i) hF ho dX (by decide) (λw1 _=>?_) ?_
 ·have zI:(ah (T.setIfInBounds 19 (.bool true)) []).eval (.tmp 18)=.int .i64 i:=(qw (by omega)).trans hT.t18;generalize (ah (T.setIfInBounds 19 (.bool true)) []).eval=e at*;unfold ai;constructor
  ·simp[go_sem,dZ,zI]
  ·simp[go_sem,dZ,zI]
 rw[hd];change WG _ _ _ _ _ (G (bS.at ⟨(T.setIfInBounds 19 (.bool true)).setIfInBounds 20 (.int .i64 i),[]⟩ (.inRegion R7 [1,2]::_)) cs) w;obtain⟨o1,uw,iK,hd1,kI⟩:∃o,R7[1]?=some o/\o.op=.alloc 3/\o.dst=some 12/\o.guard=none:=⟨_,rfl,rfl,rfl,rfl⟩
 have Am:aa o1 (aA R7 (ah ((T.setIfInBounds 19 (.bool true)).setIfInBounds 20 (.int .i64 i)) []).tmps)=true:=by unfold aa;rw[kI]
 refine WG.step rfl λw1 e1=>?_;have vS:=hF.ext e1;have hs:=bg (P:=prog) (main:=true) (b:=bS) (k:=.code (.seq (.region 8 R8 false) (.region 9 R9 false))::k) (cs:=cs) (rest:=[2]) uw Am (by decide) (TW iK w1).1;have hl:listed prog bS.fn (ah ((T.setIfInBounds 19 (.bool true)).setIfInBounds 20 (.int .i64 i)) []) o1 w1=#[]:=by unfold listed;rw[(TW iK w1).2,bF]
 rw[hl,hd1]at hs;refine⟨_,_,_,_,_,hs,Rt vS,?_⟩;have Vq:=Sq (Rt vS);change WG _ _ _ _ _ (G (bS.at ⟨T7 i w1.heap.size T,[]⟩ (.inRegion R7 [2]::_)) cs) (grown w1);obtain⟨o2,mq,xR,M8,iq⟩:∃o,R7[2]?=some o/\o.op=.store 3 (.tmp 12) (.tmp 20)/\o.dst=none/\o.guard=none:=⟨_,rfl,rfl,rfl,rfl⟩
 have JX:aa o2 (aA R7 (ah (T7 i w1.heap.size T) []).tmps)=true:=by unfold aa;rw[iq]
 have Jr:(ah (T7 i w1.heap.size T) []).eval (.tmp 12)=.pointer (some ⟨w1.heap.size,0,none⟩):=zm (by simp[hT.size]);have b20:(ah (T7 i w1.heap.size T) []).eval (.tmp 20)=.int .i64 i:=(qw (by omega)).trans (zm (by simp[hT.size]));refine WG.step rfl λw2 e2=>?_;have iR:w2.cell? ⟨w1.heap.size,0,none⟩=some (.int .i64 0)/\w2.frozen? ⟨w1.heap.size,0,none⟩=false:=by
  have h:=e2.keep w1.heap.size (.inr rfl);obtain⟨g1,g2⟩:=Zp (w:=w1);unfold aH at g1⊢;unfold cg at g2⊢;rw[h];exact⟨g1,g2⟩
 have hst:=jau (e:=(ah (T7 i w1.heap.size T) []).eval) xR Jr b20 iR.1 iR.2;have lU:=stepG_none (P:=prog) (main:=true) (b:=bS) (k:=.code (.seq (.region 8 R8 false) (.region 9 R9 false))::k) (cs:=cs) (rest:=[]) mq JX (by decide) hst.1;have nS:listed prog bS.fn (ah (T7 i w1.heap.size T) []) o2 w2=#[⟨.cell ⟨w1.heap.size,0,none⟩,true,false⟩]:=by
  unfold listed;rw[hst.2];exact seen_eq jeh (by simp)
 rw[nS,M8]at lU;refine⟨_,_,_,_,_,lU,TT (Vq.ext e2) (.inr rfl),?_⟩;have Bt:=Sq (TT (v:=.int .i64 i) (Vq.ext e2) (.inr rfl:(λb=>O b\/b=w1.heap.size) w1.heap.size));change WG _ _ _ _ _ (G (bS.at ⟨T7 i w1.heap.size T,[]⟩ (.inRegion R7 []::_)) cs) _;refine WG.ctl rfl Bt (λw1=>au) ?_;refine WG.ctl rfl Bt (λw1=>aE) ?_;refine WG.ctl rfl Bt (λw1=>aC) ?_;change WG _ _ _ _ _ (G (bS.at ⟨T7 i w1.heap.size T,[]⟩ (.inRegion R8 [0]::_)) cs) _;refine n w1.heap.size _ ?_ e1.size ?_ Bt
 ·refine e1.trans ⟨?_,λb hb=>?_⟩
  ·have:=e2.size;rw[(aX w2 ⟨w1.heap.size,0,none⟩ (.int .i64 i)).size];rw[Li]at this;omega
  ·have eB:=vS.low b hb;rw[(aX w2 ⟨w1.heap.size,0,none⟩ (.int .i64 i)).block b (λ(e:b=w1.heap.size)=>by omega),e2.keep b (.inl hb)];show(w1.heap.push _)[b]?=_;rw[aj,if_neg (Nat.ne_of_lt eB)]
 ·have h0:w2.heap[w1.heap.size]?=some (.cells #[.int .i64 0] 3 (0,0)):=by
   rw[e2.keep _ (.inr rfl)];show(w1.heap.push _)[_]?=_;rw[aj,if_pos rfl]
  have hb:(w2.setCell ⟨w1.heap.size,0,none⟩ (.int .i64 i)).heap[w1.heap.size]?=some (.cells (#[.int .i64 0].setIfInBounds 0 (.int .i64 i)) 3):=by
   rw[setCell_eq_setRow w2 w1.heap.size 0 #[.int .i64 0] _ (0,0) _ h0,setRow_heap w2 w1.heap.size _ _ _ _ h0]
  simp[aH,hb]
end
section
variable {mo:ag} {cb fb tb C Wg:Nat} {k:List Item} {cs:List am} {qy:Nat->Blocks->ag->ae->Prop} {K:aq->ae->Prop}
theorem je2 {T:Array ag} (hi:i<4) (hT:ScH mo cb fb tb C Wg i T) (hF:FOk F O w)
  (n:∀T',ScH mo cb fb tb C Wg (i+1) T'->WG prog true Stop F O (G (bS.at ⟨T',[]⟩ (.code sL::.inLoop sL::k)) cs) w):
  WG prog true Stop F O (G (bS.at ⟨T9 Wg cb kb fb tb C (T7 i kb T),[]⟩ (.inRegion R9 []::.inBlock 1::.code (.region 10 R10 false)::.inLoop sL::k)) cs) w:=by
 refine WG.ctl rfl hF (λw1=>au) ?_;refine WG.ctl rfl hF (λw1=>cj) ?_;refine WG.ctl rfl hF (λw1=>aC) ?_;have eY:(T9 Wg cb kb fb tb C (T7 i kb T)).size=42:=by simp[T9,T7,hT.size]
 have g:∀j,j≠12->j≠19->j≠20->j≠21->j≠22->(T9 Wg cb kb fb tb C (T7 i kb T)).getD j ac=T.getD j ac:=λj a b c d e=>by
  unfold T9 T7;rw[qw (aU e),qw (aU d),qw (aU a),qw (aU c),qw (aU b)]
 have g4:=(g 4 (by decide) (by decide) (by decide) (by decide) (by decide)).trans hT.t4;have g5:=(g 5 (by decide) (by decide) (by decide) (by decide) (by decide)).trans hT.t5;have g6:=(g 6 (by decide) (by decide) (by decide) (by decide) (by decide)).trans hT.t6;have g10:=(g 10 (by decide) (by decide) (by decide) (by decide) (by decide)).trans hT.t10;have g11:=(g 11 (by decide) (by decide) (by decide) (by decide) (by decide)).trans hT.t11;have g3:=(g 3 (by decide) (by decide) (by decide) (by decide) (by decide)).trans hT.t3;have g18:=(g 18 (by decide) (by decide) (by decide) (by decide) (by decide)).trans hT.t18;generalize T9 Wg cb kb fb tb C (T7 i kb T)=U at*;change WG _ _ _ _ _ (G (bS.at ⟨U,[]⟩ (.inRegion R10 [0,1]::_)) cs) w;obtain⟨o,ho,dZ,hd,hg⟩:∃o,R10[0]?=some o/\o.op=.binOp .add 3 (.tmp 18) (.const (.int .i64 1)) 3/\o.dst=some 23/\o.guard=none:=⟨_,rfl,rfl,rfl,rfl⟩
 have dX:aa o (aA R10 (ah U []).tmps)=true:=by unfold aa;rw[hg]
 refine WG.value (.int .i64 ((i+1:Nat):Int)) hF ho dX (by decide) (λw1 _=>?_) ?_
 ·have zI:(ah U []).eval (.tmp 18)=.int .i64 i:=g18;have bc:(ah U []).eval (.const (.int .i64 1))=.int .i64 1:=rfl;have mP:IntKind.i64.wrap ((i:Int)+1)=((i+1:Nat):Int):=by rw[IntKind.wrap_i64];omega
  generalize (ah U []).eval=e at*;unfold ai;constructor
  ·simp[go_sem,dZ,zI,bc,mP]
  ·simp[go_sem,dZ,zI,bc]
 rw[hd];change WG _ _ _ _ _ (G (bS.at ⟨U.setIfInBounds 23 (.int .i64 ((i+1:Nat):Int)),[]⟩ (.inRegion R10 [1]::_)) cs) w;obtain⟨o1,uw,iK,hd1,kI⟩:∃o,R10[1]?=some o/\o.op=.move (.tmp 23)/\o.dst=some 18/\o.guard=none:=⟨_,rfl,rfl,rfl,rfl⟩
 have Am:aa o1 (aA R10 (ah (U.setIfInBounds 23 (.int .i64 ((i+1:Nat):Int))) []).tmps)=true:=by unfold aa;rw[kI]
 refine WG.value (.int .i64 ((i+1:Nat):Int)) hF uw Am (by decide) (λw1 _=>?_) ?_
 ·have VP:(ah (U.setIfInBounds 23 (.int .i64 ((i+1:Nat):Int))) []).eval (.tmp 23)=.int .i64 ((i+1:Nat):Int):=zm (by rw[eY];omega);generalize (ah (U.setIfInBounds 23 (.int .i64 ((i+1:Nat):Int))) []).eval=e at*;unfold ai;constructor
  ·simp[go_sem,iK,VP]
  ·simp[go_sem,iK,VP]
 rw[hd1];change WG _ _ _ _ _ (G (bS.at ⟨(U.setIfInBounds 23 (.int .i64 ((i+1:Nat):Int))).setIfInBounds 18 (.int .i64 ((i+1:Nat):Int)),[]⟩ (.inRegion R10 []::_)) cs) w;refine WG.ctl rfl hF (λw1=>au) ?_;refine WG.ctl rfl hF (λw1=>stepG_inLoop) ?_;refine n _ ⟨by simp[eY],?_,?_,?_,?_,?_,?_,?_⟩
 ·rw[qw (by decide),qw (by decide)];exact g4
 ·rw[qw (by decide),qw (by decide)];exact g5
 ·rw[qw (by decide),qw (by decide)];exact g6
 ·rw[qw (by decide),qw (by decide)];exact g10
 ·rw[qw (by decide),qw (by decide)];exact g11
 ·exact zm (by simp[eY])
 ·rw[qw (by decide),qw (by decide)];exact g3
theorem Eb {T:Array ag} (a:j≠12) (b:j≠19) (c:j≠20):(T7 i kb T).getD j ac=T.getD j ac:=by
 unfold T7;rw[qw (aU a),qw (aU c),qw (aU b)]
theorem ScH.t7 {T:Array ag} (hT:ScH mo cb fb tb C Wg i T):ScT kb cb fb tb C Wg (T7 i kb T):=
 ⟨by simp[T7,hT.size],(Eb (by decide) (by decide) (by decide)).trans hT.t4,(Eb (by decide) (by decide) (by decide)).trans hT.t5,(Eb (by decide) (by decide) (by decide)).trans hT.t6,(Eb (by decide) (by decide) (by decide)).trans hT.t10,
  (Eb (by decide) (by decide) (by decide)).trans hT.t11,by unfold T7;exact zm (by simp[hT.size])⟩
theorem starter {Fx:Blocks->ae->Prop} (hx:∀F w w1,Fx F w->Ext F w w1->Fx F w1) (hxm:∀F F' w,Fx F w->(∀b,F b->F' b)->Fx F' w)
  (hs:∀i:Nat,i<4->∀F w kb,Fx F w->FOk F (λ_=>False) w->F kb->w.cell? ⟨kb,0,none⟩=some (.int .i64 i)->Script prog link.tWg Wg C 4 qy i F (born prog (wE Wg cb kb fb tb C)) w)
  (h0:∀F O w T,ScH mo cb fb tb C Wg 4 T->FOk F O w->Fx F w->¬F Wg->WG prog true (Scr prog link.tWg Wg C 4 qy K 0) F O (G (bS.at ⟨T,[]⟩ (.code sL::.inLoop sL::k)) cs) w):
  ∀r i,i+r=4->∀T F O w,ScH mo cb fb tb C Wg i T->FOk F O w->Fx F w->¬F Wg->Wg<w.heap.size->WG prog true (Scr prog link.tWg Wg C 4 qy K r) F O (G (bS.at ⟨T,[]⟩ (.code sL::.inLoop sL::k)) cs) w:=by
 intro r;induction r with
 |zero=>
  intro i hi T F O w hT hF hX hW _;obtain rfl:i=4:=by omega
  exact h0 F O w T hT hF hX hW
 |succ r ih=>
  intro i hi T F O w hT hF hX hW eB;have vP:i<4:=by omega
  refine TP hT hF (b:=true) (xdt (by omega)) ?_;refine WG.ctl rfl hF (λw1=>de) ?_;refine WG.ctl rfl hF (λw1=>aE) ?_;refine WG.ctl rfl hF (λw1=>bB) ?_;refine je1 hT hF λkb w3 e3 iY iR Bt=>?_;obtain⟨o,ho,dZ,hd,hg⟩:∃o,R8[0]?=some o/\o.op=.call {callee:=.value (.func 68),args:=#[.tmp 11,.const (.int .i64 1)],argTypes:=#[143,3]}/\o.dst=some 21/\o.guard=none:=⟨_,rfl,rfl,rfl,rfl⟩
  have dX:aa o (aA R8 (ah (T7 i kb T) []).tmps)=true:=by unfold aa;rw[hg]
  have ev:∀w1,(ai (ah (T7 i kb T) []).eval o).run prog w1=.ok (.enter 68 #[.pointer (some ⟨Wg,0,none⟩),.int .i64 1]) w1/\(ai (ah (T7 i kb T) []).eval o).events prog w1 #[]=#[]:=λw1=>by
   have zK:(ah (T7 i kb T) []).eval (.tmp 11)=.pointer (some ⟨Wg,0,none⟩):=(hT.t7 (kb:=kb)).t11;have bc:(ah (T7 i kb T) []).eval (.const (.int .i64 1))=.int .i64 1:=rfl;have bf:(ah (T7 i kb T) []).eval (.func 68)=.func (.func 68) #[] #[]:=rfl;generalize (ah (T7 i kb T) []).eval=e at*;unfold ai;constructor
   ·simp[go_sem,dZ,zK,bc,bf]
   ·simp[go_sem,dZ,zK,bc,bf];simp[dc,go_sem,func68,Tryz.f68]
  refine WG.quiet rfl Bt λw4 e4=>⟨_,0,_,bT ho dX (by decide) (ev w4).1,λe' he=>?_,?_⟩
  ·have:=br he;rw[(ev w4).2]at this;simp at this
  refine WG.stop λw5 e5=>⟨rfl,λhl=>?_⟩
  have Vi:Fx (λb=>F b\/b=kb) w5:=hx _ _ _ (hx _ _ _ (hxm F _ _ (hx _ _ _ hX e3) (λb hb=>.inl hb)) e4) e5;have Dr:¬(λb=>F b\/b=kb) Wg:=λh=>h.elim hW λe=>by omega
  have hF5:=(Bt.ext e4).ext e5;have hc5:w5.cell? ⟨kb,0,none⟩=some (.int .i64 i):=(kr (a:=⟨kb,0,none⟩) ((e4.trans e5).keep kb (.inr rfl))).trans iR;have Ox:Wg<w5.heap.size:=xll (xll eB e3.size) (xlt e4.size e5.size);have Nk:FOk (λb=>F b\/b=kb) (λ_=>False) w5:=⟨hF5.low,λ_ h=>h.elim⟩
  have e0:4-(r+1)=i:=by omega
  rw[e0];exact sAdd hT.t7 Dr hl (λw6 e6 _=>hs i vP _ w6 kb (hx _ _ _ Vi e6) (Nk.ext e6) (.inr rfl) ((kr (a:=⟨kb,0,none⟩) (e6.keep kb (.inr rfl))).trans hc5))
   (λw6 e6=>je2 vP hT (Nk.ext e6) λT' tF=>ih (i+1) (by omega) T' _ _ w6 tF (Nk.ext e6) (hx _ _ _ Vi e6) Dr (xll Ox e6.size))
end
section
variable {P:aN} {ty:cG} {Wg:Nat} {F:Blocks} {A K K':aq->ae->Prop}
theorem Ai.mono (hk:∀g w,K g w->K' g w) (h:Ai P ty Wg F K g w):Ai P ty Wg F K' g w:=
 MG.mono h λ_ _ h1=>h1.keep λ_ h2=>MG.mono h2 λ_ _ h3=>h3.keep λ_ h4=>hk _ _ h4
theorem Aj.mono (hk:∀g w,K g w->K' g w) (h:Aj P ty Wg F K g w):Aj P ty Wg F K' g w:=
 ⟨h.1,λhw=>let⟨g',a,b⟩:=h.2 hw;⟨g',a,Ai.mono hk b⟩⟩
theorem vB.mono (hk:∀g w,K g w->K' g w) (h:vB P ty Wg F K g w):vB P ty Wg F K' g w:=
 ⟨h.1,h.2.1,h.2.2.1,λhw=>let⟨g',a,b⟩:=h.2.2.2 hw;⟨g',a,MG.mono b λ_ _ h=>Aj.mono hk h⟩⟩
theorem Ak.mono (hk:∀g w,K g w->K' g w) {vs:Nat} (h:Ak P ty Wg F A K vs g w):Ak P ty Wg F A K' vs g w:=
 ⟨h.1,λv hv hw=>⟨λe=>let⟨g',a,b⟩:=(h.2 v hv hw).1 e;⟨g',a,MG.mono b λ_ _ h=>h.keep λ_ h=>MG.mono h λ_ _ h=>vB.mono hk h⟩,(h.2 v hv hw).2⟩⟩
theorem oN.mono (hk:∀g w,K g w->K' g w) (h:oN P ty Wg F A K g w):oN P ty Wg F A K' g w:=
 ⟨h.1,λv hv hw=>let⟨g',a,b,c⟩:=h.2 v hv hw;⟨g',a,λe=>Ai.mono hk (b e),λe=>MG.mono (c e) λ_ _ h=>Ak.mono hk h⟩⟩
end
noncomputable def sT:Code:=match sR with|.seq _ c=>c|_=>.skip
noncomputable def R11:Array Oper:=match sR with|.seq a _=>rg a|_=>#[]
theorem je3:sR=.seq (.region 11 R11 false) sT:=rfl
section
variable {mo:ag} {cb fb tb C Wg:Nat} {k:List Item} {cs:List am} {qy:Nat->Blocks->ag->ae->Prop}
def Behind (mo:ag) (cb fb tb C Wg:Nat) (k:List Item) (cs:List am) (T0:Array ag) (g:aq) (_:ae):Prop:=g=G (bS.at ⟨T0.setIfInBounds 24 (.tuple #[]),[]⟩ (.code sT::k)) cs/\ScH mo cb fb tb C Wg 4 T0
def KS (mo:ag) (cb fb tb C Wg:Nat) (k:List Item) (cs:List am) (g:aq) (w:ae):Prop:= ∃F T,MG prog link.tWg Wg F (Behind mo cb fb tb C Wg k cs T) g w
theorem je7 {T0:Array ag} (xK:ScH mo cb fb tb C Wg 4 T0) (hF:FOk F O w):
  WG prog true (Scr prog link.tWg Wg C 4 qy (KS mo cb fb tb C Wg k cs) 0) F O (G (bS.at ⟨T0,[]⟩ (.code sL::.inLoop sL::.inBlock 0::.code sR::k)) cs) w:=by
 refine TP xK hF (b:=false) (xdf (by decide)) ?_;refine WG.ctl rfl hF (λw1=>stepG_exit rfl) ?_;rw[je3];refine WG.ctl rfl hF (λw1=>aE) ?_;refine WG.ctl rfl hF (λw1=>aC) ?_;have hT:ScH mo cb fb tb C Wg 4 (T0.setIfInBounds 19 (.bool false)):=⟨by simp[xK.size],(qw (by decide)).trans xK.t4,(qw (by decide)).trans xK.t5,(qw (by decide)).trans xK.t6,(qw (by decide)).trans xK.t10,(qw (by decide)).trans xK.t11,(qw (by decide)).trans xK.t18,(qw (by decide)).trans xK.t3⟩
 change WG _ _ _ _ _ (G (bS.at ⟨T0.setIfInBounds 19 (.bool false),[]⟩ (.inRegion R11 [0]::_)) cs) w;generalize T0.setIfInBounds 19 (.bool false)=T at*;obtain⟨o,ho,dZ,hd,hg⟩:∃o,R11[0]?=some o/\o.op=.call {callee:=.value (.func 71),args:=#[.tmp 11],argTypes:=#[143]}/\o.dst=some 24/\o.guard=none:=⟨_,rfl,rfl,rfl,rfl⟩
 have dX:aa o (aA R11 (ah T []).tmps)=true:=by unfold aa;rw[hg]
 have ev:∀w1,(ai (ah T []).eval o).run prog w1=.ok (.enter 71 #[.pointer (some ⟨Wg,0,none⟩)]) w1/\(ai (ah T []).eval o).events prog w1 #[]=#[]:=λw1=>by
  have zK:(ah T []).eval (.tmp 11)=.pointer (some ⟨Wg,0,none⟩):=hT.t11;have bf:(ah T []).eval (.func 71)=.func (.func 71) #[] #[]:=rfl;generalize (ah T []).eval=e at*;unfold ai;constructor
  ·simp[go_sem,dZ,zK,bf]
  ·simp[go_sem,dZ,zK,bf];simp[dc,go_sem,func71,Tryz.f71]
 refine WG.quiet rfl hF λw4 e4=>⟨_,0,_,bT ho dX (by decide) (ev w4).1,λe' he=>?_,?_⟩
 ·have:=br he;rw[(ev w4).2]at this;simp at this
 refine WG.stop λw5 e5=>⟨rfl,λhl=>?_⟩
 refine⟨Anch link Wg (bS.at ⟨T,[]⟩ (.inRegion R11 [0]::.code sT::k)) cs,λg w h=>by obtain⟨T,rfl,_⟩:=h;rfl,λg w h=>?_,?_⟩
 ·have h1:=waitRound (F:=F) Gc (K:=Behind mo cb fb tb C Wg k cs T) (mT:=1) (b₀:=bS) (a₀:=⟨T,[]⟩) (ops₀:=R11) (i₀:=0) (rest₀:=[]) (k₀:=.code sT::k) (cs:=cs) (λw _=>by
   refine Goes.step rfl λw1 _=>?_;rw[au];simp only[bz]
   exact⟨⟨rfl,rfl⟩,λ_ _=>⟨rfl,hT⟩⟩) g w h
  exact MG.mono h1 λg w h=>oN.mono (λg w h=>⟨F,T,h⟩) h
 ·have h2:=waitStart (F:=F) (cs:=cs) Gc (c:=bS.at ⟨T,[]⟩ (.inRegion R11 [0]::.code sT::k)) w5 hl;rw[enter_at _ func71 (show Tryz.f71.body=some (body_wait link)from rfl)]
  walk_nrmf Tryz.f71
  exact h2
end
theorem Zn {mo:ag} {fb C Wg o L0:Nat} {a:aq} {w0:ae} {D:Nat->WX} {FM:Blocks}
  (hJ:Joined prog o Wg C 4 SB qy (KS mo cb fb tb C Wg k cs) L0 w0 gs a w t D FM q):
  ∃(N:Nat) (eZ:Array aq) (T:Array ag) (d:Nat) (sl':Option (Nat×Nat)) (t':bp) (q':Nat->Nat),runNT prog N (crowd gs w sl) t=(.next (crowd eZ (w.at d) sl'),t')/\eZ.size=gs.size/\
   eZ[0]?=some (G (bS.at ⟨T.setIfInBounds 24 (.tuple #[]),[]⟩ (.code sT::k)) cs)/\ScH mo cb fb tb C Wg 4 T/\bq prog t' eZ q'/\yo (λb=>SB b\/b=Wg) (w.at d) eZ.size t':=by
 obtain⟨F,T,m,hg⟩:=hJ.k;obtain⟨N,eZ,a',d,sl',t',q',h1,h2,h3,⟨h4,h5⟩,h6,h7⟩:=Zm (P:=prog) (SB:=λb=>SB b\/b=Wg) (R:=RM link.tWg Wg F) (Stop:=Behind mo cb fb tb C Wg k cs T) (λw d=>⟨⟨jd _,λ_ _=>rfl⟩,id⟩) (λg w h=>by rw[h.1];rfl) m gs a w sl t q hJ.main hJ.leavers hJ.past hg;subst h4;exact⟨N,eZ,T,d,sl',t',q',h1,h2,h3,h5,h6,h7⟩
end
section
open Go Go.Conc Go.ConcN Sim
section
variable {X:Cx} {Fb:aD->Bool} {sp:aD->Bool}
theorem q42 (oq:X.P'=X.P) (S:X.Set Fb true sp) {v:ag} (fJ:l9 X.P X.P' Fb true o=true) (he:EvR X.F Fb ρ e e) (hw:WR X ρ w w) (hr:(ai e o).run X.P w=.ok (.value v) w1):
  ∃ρ1,ρ.le ρ1/\WR X ρ1 w1 w1/\VR X.F ρ1 v v/\rP (rng ρ) (own X ρ) w (rng ρ1) (own X ρ1) w1 ((ai e o).events X.P w #[])/\(NB w->NB w1):=by
 have hs:=SS.execOp S.ok true S.wrs o fJ e e he;obtain⟨ρ1,a',gB,gH,h1,h2,h3,h4,h5,h6,h7⟩:=hs.1 w w _ w1 #[] hw hr;rw[oq]at h1;have e1:=congrArg Prod.fst h1;rw[Sem.runT_fst,hr]at e1;have e1:(Result.ok (Next.value v) w1:Result Next)=.ok a' gB:=e1;injection e1 with ea ew;subst ea;subst ew;have ee:(ai e o).events X.P w #[]=gH:=by
  have:=congrArg Prod.snd h1;simpa[Sem.runT_eq]using this
 cases h6 with
 |value hv=>exact⟨ρ1,h3.le,h2,hv,by rw[ee];exact Ew hw h3 h2 h5,λ_=>trivial⟩
end
end
section
open Go.Conc Go.ConcN Go.RowKit Go.Conc.Lib Go.ConcR.Gen Go.ConcN.Gen Go Sim
open Go.ConcR (KK wgBlock WgAt stA smA rd wr mk Payload Aside2 DC0 ofEvent_cell)
def vD (w:ae):ae:={w with heap:=w.heap.push (wgBlock link.tWg 0 0)}
theorem Ql (dZ:o.op=.alloc 143) (w:ae):(ai e o).run prog w=.ok (.value (.pointer (some ⟨w.heap.size,0,none⟩))) (vD w)/\(ai e o).events prog w #[]=#[]:=by
 unfold ai;constructor
 ·simp[go_sem,dZ,vD,Instr.alloc,wgBlock]
 ·simp[go_sem,dZ,Instr.alloc]
theorem Ym:WgAt link.tWg w.heap.size (vD w) 0 0:=by
 show(w.heap.push _)[_]?=_;rw[aj,if_pos rfl]
noncomputable def R4:Array Oper:=match tO with|.seq _ (.seq _ (.seq _ (.seq a _)))=>rg a|_=>#[]
theorem Zq {a:Act} (h0:gs[0]?=some (G (bS.at a (.inRegion R4 [0]::k)) cs)) (hL:bq prog t gs q) (hP:yo SB w gs.size t):
  ∃(eZ:Array aq) (d:Nat) (sl':Option (Nat×Nat)) (t':bp) (q':Nat->Nat),Runs prog gs w sl t eZ (vD (w.at d)) sl' t'/\eZ.size=gs.size/\eZ[0]?=some (G (bS.at (a.put (some 11) (.pointer (some ⟨w.heap.size,0,none⟩))) (.inRegion R4 []::k)) cs)/\
   bq prog t' eZ q'/\yo SB (vD (w.at d)) eZ.size t'/\WgAt link.tWg w.heap.size (vD (w.at d)) 0 0/\∀x:Addr,x.block=w.heap.size->nZ t' (.cell x):=by
 obtain⟨o,ho,dZ,hd,hg⟩:∃o,R4[0]?=some o/\o.op=.alloc 143/\o.dst=some 11/\o.guard=none:=⟨_,rfl,rfl,rfl,rfl⟩
 have dX:aa o (aA R4 a.tmps)=true:=by unfold aa;rw[hg]
 have hs:∀d,aW prog true (G (bS.at a (.inRegion R4 [0]::k)) cs) (w.at d)=.go (G (bS.at (a.put (some 11) (.pointer (some ⟨w.heap.size,0,none⟩))) (.inRegion R4 []::k)) cs) (vD (w.at d)) #[]:=λd=>by
  have hl:listed prog bS.fn a o (w.at d)=#[]:=by unfold listed;rw[(Ql dZ _).2,bF]
  have:=bg (P:=prog) (main:=true) (b:=bS) (k:=k) (cs:=cs) (rest:=[]) ho dX (by decide) (Ql (e:=a.eval) dZ (w.at d)).1;rw[hl,hd]at this;exact this
 have eY:∀d,(vD (w.at d)).heap.size=w.heap.size+1:=λd=>by
  show(w.heap.push _).size=_;rw[Array.size_push]
 obtain⟨N,eZ,a',d,w',es,sl',t',q',h1,h2,h3,h4,h5,h6,h7⟩:=CZ (P:=prog) (SB:=SB) (sl:=sl) h0 rfl hL hP λd=>⟨_,_,_,hs d,by rw[eY];exact Nat.le_succ _,by simp⟩
 rw[hs d]at h2;injection h2 with e1 e2 e3;subst e1;subst e2;subst e3;refine⟨eZ,d,sl',t',q',⟨N,h1⟩,h3,h4,h5,h6,Ym (w:=w.at d),λx hx=>h7 _ (SI (B:=w.heap.size) (λop dZ=>hP.seen op dZ) (by omega)) (by simp)⟩
end
section
open Go Go.Conc Go.ConcN Sim
section
variable {P:aN} {b:am} {a:Act} {k:List Item} {cs fU:List am} {ops:Array Oper} {i:Nat} {rest:List Nat} {o:Oper} {fr jo eH:am}
theorem Sil.ctl (h:∀w,aW P true (G fr cs) w=.go (G jo cs) w #[]) (n:Sil P jo cs eH fU):Sil P fr cs eH fU:=.step h n
theorem Sil.value (v:ag) (ho:ops[i]?=some o) (hw:aa o (aA ops a.tmps)=true) (hk:b.kind≠.early)
  (hr:∀w,(ai a.eval o).run P w=.ok (.value v) w/\(ai a.eval o).events P w #[]=#[])
  (n:Sil P (b.at (a.put o.dst v) (.inRegion ops rest::k)) cs eH fU):Sil P (b.at a (.inRegion ops (i::rest)::k)) cs eH fU:=
 .step (λw=>by
  rw[bg ho hw hk (hr w).1];unfold listed
  rw[(hr w).2,bF]) n
end
noncomputable def R12:Array Oper:=match sT with|.seq a _=>rg a|_=>#[]
noncomputable def sT2:Code:=match sT with|.seq _ c=>c|_=>.skip
noncomputable def R13:Array Oper:=match sT2 with|.seq (.seq a _) _=>rg a|_=>#[]
noncomputable def tL:Code:=match sT2 with|.seq (.seq _ (.block _ (.loop c))) _=>c|_=>.skip
noncomputable def tE:Code:=match sT2 with|.seq _ c=>c|_=>.skip
theorem je5:sT=.seq (.region 12 R12 false) sT2:=rfl
theorem jav:sT2=.seq (.seq (.region 13 R13 false) (.block 2 (.loop tL))) tE:=rfl
noncomputable def tIn:Code:=match tL with|.seq _ (.seq _ (.seq (.block _ c) _))=>c|_=>.skip
noncomputable def R14:Array Oper:=match tL with|.seq a _=>rg a|_=>#[]
noncomputable def R17:Array Oper:=match tL with|.seq _ (.seq _ (.seq _ a))=>rg a|_=>#[]
noncomputable def R15:Array Oper:=match tIn with|.seq a _=>rg a|_=>#[]
noncomputable def R16:Array Oper:=match tIn with|.seq _ a=>rg a|_=>#[]
noncomputable def R18:Array Oper:=match tE with|.seq a _=>rg a|_=>#[]
theorem jfc:tL=.seq (.region 14 R14 false) (.seq (.cond (.tmp 27) .skip (.exit 2)) (.seq (.block 3 tIn) (.region 17 R17 false))):=rfl
theorem ja5:tIn=.seq (.region 15 R15 false) (.region 16 R16 false):=rfl
theorem jfb:tE=.seq (.region 18 R18 false) .ret:=rfl
section
variable {T:Array ag} {k:List Item} {cs:List am}
theorem jff:Sil prog (bS.at ⟨T,[]⟩ (.code sT::k)) cs (bS.at ⟨T.setIfInBounds 13 (.slice none 0 0),[]⟩ (.inRegion R13 [0,1]::.code (.block 2 (.loop tL))::.code tE::k)) cs:=by
 rw[je5];refine Sil.ctl (λw1=>aE) ?_;refine Sil.ctl (λw1=>aC) ?_;change Sil _ (bS.at ⟨T,[]⟩ (.inRegion R12 [0]::_)) _ _ _;obtain⟨o,ho,dZ,hd,hg⟩:∃o,R12[0]?=some o/\o.op=.assign (.const (.slice none 0 0))/\o.dst=some 13/\o.guard=none:=⟨_,rfl,rfl,rfl,rfl⟩
 have dX:aa o (aA R12 (ah T []).tmps)=true:=by unfold aa;rw[hg]
 refine Sil.value (.slice none 0 0) ho dX (by decide) (λw=>?_) ?_
 ·have bc:(ah T []).eval (.const (.slice none 0 0))=.slice none 0 0:=rfl;generalize (ah T []).eval=e at*;unfold ai;constructor
  ·simp[go_sem,dZ,bc]
  ·simp[go_sem,dZ,bc]
 rw[hd];change Sil _ (bS.at ⟨T.setIfInBounds 13 (.slice none 0 0),[]⟩ (.inRegion R12 []::_)) _ _ _;refine Sil.ctl (λw1=>au) ?_;rw[jav];refine Sil.ctl (λw1=>aE) ?_;refine Sil.ctl (λw1=>aE) ?_;refine Sil.ctl (λw1=>aC) ?_;exact Sil.refl _ _
theorem TM (eY:T.size=42) (Nn:T.getD 26 ac=.int .i64 i) {b:Bool} (hb:decide ((i:Int)<4)=b):
  Sil prog (bS.at ⟨T,[]⟩ (.code tL::k)) cs (bS.at ⟨T.setIfInBounds 27 (.bool b),[]⟩ (.code (if b then .skip else .exit 2)::.code (.seq (.block 3 tIn) (.region 17 R17 false))::k)) cs:=by
 rw[jfc];refine Sil.ctl (λw1=>aE) ?_;refine Sil.ctl (λw1=>aC) ?_;change Sil _ (bS.at ⟨T,[]⟩ (.inRegion R14 [0]::_)) _ _ _;obtain⟨o,ho,dZ,hd,hg⟩:∃o,R14[0]?=some o/\o.op=.binOp .lss 3 (.tmp 26) (.const (.int .i64 4)) 3/\o.dst=some 27/\o.guard=none:=⟨_,rfl,rfl,rfl,rfl⟩
 have dX:aa o (aA R14 (ah T []).tmps)=true:=by unfold aa;rw[hg]
 refine Sil.value (.bool b) ho dX (by decide) (λw1=>?_) ?_
 ·have zH:(ah T []).eval (.tmp 26)=.int .i64 i:=Nn;have bc:(ah T []).eval (.const (.int .i64 4))=.int .i64 4:=rfl;generalize (ah T []).eval=e at*;unfold ai;constructor
  ·simp[go_sem,dZ,zH,bc,hb]
  ·simp[go_sem,dZ,zH,bc]
 rw[hd];change Sil _ (bS.at ⟨T.setIfInBounds 27 (.bool b),[]⟩ (.inRegion R14 []::_)) _ _ _;refine Sil.ctl (λw1=>au) ?_;refine Sil.ctl (λw1=>aE) ?_;have hc:(ah (T.setIfInBounds 27 (.bool b)) []).eval (.tmp 27)=.bool b:=zm (by rw[eY];omega);exact Sil.ctl (λw1=>stepG_cond hc) (Sil.refl _ _)
theorem tEnd {v:ag} (eY:T.size=42) (Bu:T.getD 13 ac=v):
  Sil prog (bS.at ⟨T,[]⟩ (.code tE::k)) cs {bS.at ⟨((T.setIfInBounds 41 v).setIfInBounds 8 v).setIfInBounds 9 (.int .i64 0),[]⟩ (.code .ret::k)with mode:=.returning} cs:=by
 rw[jfb];refine Sil.ctl (λw1=>aE) ?_;refine Sil.ctl (λw1=>aC) ?_;change Sil _ (bS.at ⟨T,[]⟩ (.inRegion R18 [0,1,2]::_)) _ _ _;obtain⟨o,ho,dZ,hd,hg⟩:∃o,R18[0]?=some o/\o.op=.move (.tmp 13)/\o.dst=some 41/\o.guard=none:=⟨_,rfl,rfl,rfl,rfl⟩
 have dX:aa o (aA R18 (ah T []).tmps)=true:=by unfold aa;rw[hg]
 refine Sil.value v ho dX (by decide) (λw1=>?_) ?_
 ·have zJ:(ah T []).eval (.tmp 13)=v:=Bu;generalize (ah T []).eval=e at*;unfold ai;constructor
  ·simp[go_sem,dZ,zJ]
  ·simp[go_sem,dZ,zJ]
 rw[hd];change Sil _ (bS.at ⟨T.setIfInBounds 41 v,[]⟩ (.inRegion R18 [1,2]::_)) _ _ _;obtain⟨o1,uw,iK,hd1,kI⟩:∃o,R18[1]?=some o/\o.op=.assign (.tmp 41)/\o.dst=some 8/\o.guard=none:=⟨_,rfl,rfl,rfl,rfl⟩
 have Am:aa o1 (aA R18 (ah (T.setIfInBounds 41 v) []).tmps)=true:=by unfold aa;rw[kI]
 refine Sil.value v uw Am (by decide) (λw1=>?_) ?_
 ·have VA:(ah (T.setIfInBounds 41 v) []).eval (.tmp 41)=v:=zm (by rw[eY];omega);generalize (ah (T.setIfInBounds 41 v) []).eval=e at*;unfold ai;constructor
  ·simp[go_sem,iK,VA]
  ·simp[go_sem,iK,VA]
 rw[hd1];change Sil _ (bS.at ⟨(T.setIfInBounds 41 v).setIfInBounds 8 v,[]⟩ (.inRegion R18 [2]::_)) _ _ _;obtain⟨o2,mq,xR,M8,iq⟩:∃o,R18[2]?=some o/\o.op=.assign (.const (.int .i64 0))/\o.dst=some 9/\o.guard=none:=⟨_,rfl,rfl,rfl,rfl⟩
 have JX:aa o2 (aA R18 (ah ((T.setIfInBounds 41 v).setIfInBounds 8 v) []).tmps)=true:=by unfold aa;rw[iq]
 refine Sil.value (.int .i64 0) mq JX (by decide) (λw1=>?_) ?_
 ·have bc:(ah ((T.setIfInBounds 41 v).setIfInBounds 8 v) []).eval (.const (.int .i64 0))=.int .i64 0:=rfl;generalize (ah ((T.setIfInBounds 41 v).setIfInBounds 8 v) []).eval=e at*;unfold ai;constructor
  ·simp[go_sem,xR,bc]
  ·simp[go_sem,xR,bc]
 rw[M8];change Sil _ (bS.at ⟨((T.setIfInBounds 41 v).setIfInBounds 8 v).setIfInBounds 9 (.int .i64 0),[]⟩ (.inRegion R18 []::_)) _ _ _;refine Sil.ctl (λw1=>au) ?_;exact Sil.ctl (λw1=>rfl) (Sil.refl _ _)
theorem jfe (hi:i<4) (eY:T.size=42) (Nn:T.getD 26 ac=.int .i64 i):
  Sil prog (bS.at ⟨T,[]⟩ (.inRegion R16 []::.inBlock 3::.code (.region 17 R17 false)::.inLoop tL::k)) cs (bS.at ⟨(T.setIfInBounds 40 (.int .i64 ((i+1:Nat):Int))).setIfInBounds 26 (.int .i64 ((i+1:Nat):Int)),[]⟩ (.code tL::.inLoop tL::k)) cs:=by
 refine Sil.ctl (λw1=>au) ?_;refine Sil.ctl (λw1=>cj) ?_;refine Sil.ctl (λw1=>aC) ?_;change Sil _ (bS.at ⟨T,[]⟩ (.inRegion R17 [0,1]::_)) _ _ _;obtain⟨o,ho,dZ,hd,hg⟩:∃o,R17[0]?=some o/\o.op=.binOp .add 3 (.tmp 26) (.const (.int .i64 1)) 3/\o.dst=some 40/\o.guard=none:=⟨_,rfl,rfl,rfl,rfl⟩
 have dX:aa o (aA R17 (ah T []).tmps)=true:=by unfold aa;rw[hg]
 refine Sil.value (.int .i64 ((i+1:Nat):Int)) ho dX (by decide) (λw1=>?_) ?_
 ·have zH:(ah T []).eval (.tmp 26)=.int .i64 i:=Nn;have bc:(ah T []).eval (.const (.int .i64 1))=.int .i64 1:=rfl;have mP:IntKind.i64.wrap ((i:Int)+1)=((i+1:Nat):Int):=by rw[IntKind.wrap_i64];omega
  generalize (ah T []).eval=e at*;unfold ai;constructor
  ·simp[go_sem,dZ,zH,bc,mP]
  ·simp[go_sem,dZ,zH,bc]
 rw[hd];change Sil _ (bS.at ⟨T.setIfInBounds 40 (.int .i64 ((i+1:Nat):Int)),[]⟩ (.inRegion R17 [1]::_)) _ _ _;obtain⟨o1,uw,iK,hd1,kI⟩:∃o,R17[1]?=some o/\o.op=.move (.tmp 40)/\o.dst=some 26/\o.guard=none:=⟨_,rfl,rfl,rfl,rfl⟩
 have Am:aa o1 (aA R17 (ah (T.setIfInBounds 40 (.int .i64 ((i+1:Nat):Int))) []).tmps)=true:=by unfold aa;rw[kI]
 refine Sil.value (.int .i64 ((i+1:Nat):Int)) uw Am (by decide) (λw1=>?_) ?_
 ·have VB:(ah (T.setIfInBounds 40 (.int .i64 ((i+1:Nat):Int))) []).eval (.tmp 40)=.int .i64 ((i+1:Nat):Int):=zm (by rw[eY];omega);generalize (ah (T.setIfInBounds 40 (.int .i64 ((i+1:Nat):Int))) []).eval=e at*;unfold ai;constructor
  ·simp[go_sem,iK,VB]
  ·simp[go_sem,iK,VB]
 rw[hd1];change Sil _ (bS.at ⟨(T.setIfInBounds 40 (.int .i64 ((i+1:Nat):Int))).setIfInBounds 26 (.int .i64 ((i+1:Nat):Int)),[]⟩ (.inRegion R17 []::_)) _ _ _;refine Sil.ctl (λw1=>au) ?_;exact Sil.ctl (λw1=>stepG_inLoop) (Sil.refl _ _)
end
def BGo (cs:List am) (fr:am) (w:ae) (SB:Blocks) (Z:am->ae->Prop):Prop:=
 ∀(d:Nat) (gs:Array aq) (sl:Option (Nat×Nat)) (t:bp) (q:Nat->Nat),gs[0]?=some (G fr cs)->bq prog t gs q->yo SB (w.at d) gs.size t->
  ∃(eZ:Array aq) (eH:am) (w':ae) (sl':Option (Nat×Nat)) (t':bp) (q':Nat->Nat),Runs prog gs (w.at d) sl t eZ w' sl' t'/\eZ.size=gs.size/\Z eH w'/\eZ[0]?=some (G eH cs)/\bq prog t' eZ q'/\yo SB w' eZ.size t'
def TH (T:Array ag) (l:List (Nat×ag)):Prop:=T.size=42/\∀p∈l,T.getD p.1 ac=p.2
theorem TH.sub {T:Array ag} (h:TH T l) (hs:∀p∈l',p∈l):TH T l':=⟨h.1,λp hp=>h.2 p (hs p hp)⟩
theorem TH.set {T:Array ag} (h:TH T l) {d:Nat} (v:ag) (hd:d<42) (hs:∀p∈l',p∈l/\p.1≠d):TH (T.setIfInBounds d v) ((d,v)::l'):=by
 refine⟨by simp[h.1],λp hp=>?_⟩;rcases aF.1 hp with rfl|hp
 ·exact zm (by rw[h.1];exact hd)
 ·exact(qw (aU (hs p hp).2)).trans (h.2 p (hs p hp).1)
section
variable {cs:List am} {fr jo:am} {w:ae} {SB:Blocks} {Z:am->ae->Prop} {k:List Item} {T:Array ag}
theorem BGo.done (h:∀d,Z fr (w.at d)):BGo cs fr w SB Z:=λd gs sl t q h0 hL hP=>⟨gs,fr,w.at d,sl,t,q,⟨0,rfl⟩,rfl,h d,h0,hL,hP⟩
theorem BGo.sil (hs:Sil prog fr cs jo cs) (n:BGo cs jo w SB Z):BGo cs fr w SB Z:=λd gs sl t q h0 hL hP=>by
 obtain⟨lq,d1,iX,t1,q1,h1,h2,h3,h4,h5⟩:=hs.runs (SB:=SB) (sl:=sl) h0 hL hP;obtain⟨rX,iF,w2,rz,t2,q2,k1,k2,k3,k4,k5,k6⟩:=n d1 lq iX t1 q1 h3 h4 h5;exact⟨rX,iF,w2,rz,t2,q2,h1.trans k1,k2.trans h2,k3,k4,k5,k6⟩
theorem BGo.one (eT:(G fr cs).status=.running) (hs:∀d,∃jo w1 es,aW prog true (G fr cs) (w.at d)=.go (G jo cs) w1 es/\w.heap.size<=w1.heap.size/\(∀e∈es,EvZ SB w1.heap.size e)/\BGo cs jo w1 SB Z):BGo cs fr w SB Z:=λd gs sl t q h0 hL hP=>by
 obtain⟨N,lq,a1,d1,w1,es,iX,t1,q1,hr,hgo,hz,pX,uM,uK,_⟩:=CZ (P:=prog) (SB:=SB) (sl:=sl) h0 eT hL hP λd=>let⟨jo,w1,es,h1,h2,h3,_⟩:=hs d;⟨_,_,_,h1,h2,h3⟩;obtain⟨jo,gB,gY,h1,h2,h3,n⟩:=hs d1;rw[show(w.at d).at d1=w.at d1 from rfl]at hgo;rw[h1]at hgo;injection hgo with e1 e2 e3;subst e1;subst e2;subst e3;obtain⟨rX,iF,w2,rz,t2,q2,k1,k2,k3,k4,k5,k6⟩:=n gB.drawn lq iX t1 q1 pX uM uK;exact⟨rX,iF,w2,rz,t2,q2,Runs.trans ⟨N,hr⟩ k1,k2.trans hz,k3,k4,k5,k6⟩
theorem BGo.val {rest:List Nat} (hT:TH T l) {d:Nat} (v:ag) (ho:ops[i]?=some o) (qF:o.dst=some d) (hg:o.guard=none) (hd:d<42) (hs:∀p∈l',p∈l/\p.1≠d)
  (hr:∀e:cw->ag,(∀p∈l,e (.tmp p.1)=p.2)->(∀c,e (.const c)=c)->∀w,(ai e o).run prog w=.ok (.value v) w/\(ai e o).events prog w #[]=#[])
  (n:∀T',TH T' ((d,v)::l')->BGo cs (bS.at ⟨T',[]⟩ (.inRegion ops rest::k)) w SB Z):BGo cs (bS.at ⟨T,[]⟩ (.inRegion ops (i::rest)::k)) w SB Z:=by
 have dX:aa o (aA ops (ah T []).tmps)=true:=by unfold aa;rw[hg]
 have ev:=hr (ah T []).eval (λp hp=>hT.2 p hp) (λ_=>rfl);refine BGo.sil (Sil.value v ho dX (by decide) ev (.refl _ _)) ?_;rw[qF];exact n _ (hT.set v hd hs)
end
theorem P6 {e:Event} (h:EvF F O e) (ha:∀b,F b->¬SB b) (hB:∀b,F b->b<B):EvZ SB B e:=⟨Gq h ha hB,λ_ hy=>(Ki h hy).1⟩
def mY (F:Blocks) (w:ae) (v:ag) (n:Nat) (xs:List ag):Prop:=
 xs.length=n*2/\((v=.slice none 0 0/\n=0)\/∃g cap cur,v=.slice (some ⟨g,0,none⟩) n cap/\F g/\w.heap[g]?=some (.cells cur 62 (0,0))/\n<=cap/\cap<=bi/\cur.toList.take (n*2)=xs/\∀x∈cur.toList,∃s,x=.string s)
theorem mY.ext {v:ag} (h:mY F w v n xs) (k:∀b,F b->w1.heap[b]?=w.heap[b]?):mY F w1 v n xs:=by
 refine⟨h.1,h.2.imp id ?_⟩;rintro⟨g,cap,cur,h1,h2,h3,h4⟩;exact⟨g,cap,cur,h1,h2,(k g h2).trans h3,h4⟩
structure TlS (ρ0:Rel) (w0:ae) (SB:Blocks) (n:Nat) (xs:List ag) (ov:ag) (ρ:Rel) (w:ae):Prop where
 le:ρ0.le ρ
 wr:WR XG ρ w w
 vr:VR XG.F ρ ov ov
 nb:NB w
 own:w.ownsRow w0.heap.size 62 2 ov n xs
 keep:∀b,b<w0.heap.size->w.heap[b]?=w0.heap[b]?
 size:w0.heap.size<=w.heap.size
 apart:∀b,rng ρ b->¬SB b
 os:w.os=w0.os
 output:w.output=w0.output
theorem TlS.at {ρ0:Rel} {w0:ae} {ov:ag} (h:TlS ρ0 w0 SB n xs ov ρ w) (d:Nat):TlS ρ0 w0 SB n xs ov ρ (w.at d):=
 ⟨h.le,⟨h.wr.fn,h.wr.inj,h.wr.heap,λ_ _=>rfl,h.wr.sh⟩,h.vr,h.nb,h.own,h.keep,h.size,h.apart,h.os,h.output⟩
theorem q0y:∃i,prog.info? 62=some i/\i.zero=some (.agg #[.string ⟨#[]⟩,.string ⟨#[]⟩])/\i.size=2/\i.bytes=32:=by
 have h:(prog.info? 62).map (λi=>(i.zero,i.size,i.bytes))=some (some (.agg #[.string ⟨#[]⟩,.string ⟨#[]⟩]),2,32):=by kernel_rfl
 obtain⟨i,h1,h2⟩:=aK.1 h;injection h2 with h2 h3;injection h3 with h3 h4;exact⟨i,h1,h2,h3,h4⟩
def zY (v x:ag):cw->ag
 |.tmp 29=>v
 |.tmp 38=>x
 |.const c=>c
 |_=>ac
theorem qjw {P:aN} {t e ty:cG} {i:TypeInfo} (ht:P.underlying t=some (.slice e)) (hi:P.info? e=some i) {base:Nat} {v:ag} {size:Nat} (h:w.ownsRow base e size v n xs):
  (aG #[t,t] ty #[v,.slice none 0 0]).run P w=.ok v w:=by
 rcases h.2 with⟨rfl,rfl⟩|⟨g,cap,cur,rfl,h1,h2,h3,h4,h5,h6⟩
 ·simp[aG,bj ht,sizeOf,typeInfo,hi,bm,aL,loadCells,loadCellsFrom]
 ·simp[aG,bj ht,sizeOf,typeInfo,hi,bm,aL,loadCells,loadCellsFrom,storeCells,h3]
section
variable {cs:List am} {SB:Blocks} {Z:am->ae->Prop} {k:List Item} {T:Array ag} {ρ0 ρ:Rel} {w0 w:ae} {n:Nat} {xs:List ag} {ov:ag}
theorem q61 {lv:ag} {m kk:Nat} {r:List ag} (h:TlS ρ0 w0 SB n xs ov ρ w) {Gb:Blocks} (hG:∀b,Gb b->b<w0.heap.size/\ρ0 b b) (nC:lv=.slice sa m c) (hr:mY Gb w0 lv m r) (nD:kk<=m) (zD:∀b,SB b->b<w0.heap.size) (hn:n+kk<=1073741824)
  (hT:TH T l) (h29:(29,ov)∈l) (h38:(38,.slice sa kk c)∈l) (sU:∀p∈l',p∈l/\p.1≠39/\p.1≠13)
  (nx:∀T' oh ρ' w',TlS ρ0 w0 SB (n+kk) (xs++r.take (kk*2)) oh ρ' w'->TH T' ((13,oh)::l')->BGo cs (bS.at ⟨T',[]⟩ (.inRegion R16 []::k)) w' SB Z):
  BGo cs (bS.at ⟨T,[]⟩ (.inRegion R16 [10,11]::k)) w SB Z:=by
 obtain⟨o,ho,dZ,hd,hg⟩:∃o,R16[10]?=some o/\o.op=.call {callee:=.builtin .append,args:=#[.tmp 29,.tmp 38],argTypes:=#[29,29]}/\o.dst=some 39/\o.guard=none:=⟨_,rfl,rfl,rfl,rfl⟩
 have fJ:l9 XG.P XG.P' fb true o=true:=by
  have:R16[10]?.any (l9 prog prog fb true)=true:=by kernel_rfl
  rw[ho]at this;exact this
 obtain⟨i,hi,hz,hs,hb⟩:=q0y;have hu:prog.underlying 29=some (.slice 62):=underlying29;have dX:aa o (aA R16 (ah T []).tmps)=true:=by unfold aa;rw[hg]
 have Nw:(ah T []).eval (.tmp 29)=ov:=hT.2 _ h29;have e38:(ah T []).eval (.tmp 38)=.slice sa kk c:=hT.2 _ h38;have jX:ai (ah T []).eval o=ai (zY ov (.slice sa kk c)) o:=by
  unfold ai;simp only[dZ,bH,aY,cx,Nw,e38,zY,resolve]
 refine BGo.one rfl λd=>?_;have nE:=h.at d
 -- what it O5
 have eT:∃v' w',(aG #[29,29] o.type #[ov,.slice sa kk c]).run prog (w.at d)=.ok v' w'/\w'.ownsRow w0.heap.size 62 2 v' (n+kk) (xs++r.take (kk*2))/\(w.at d).grownBy w' ov.ownBlock:=by
  rcases hr.2 with⟨e,rfl⟩|⟨g,cap,cur,e,h1,h2,h3,h4,h5,h6⟩
  ·obtain rfl:kk=0:=by omega
   rw[nC]at e;injection e with e1 e2 e3;subst e1;subst e3;refine⟨ov,w.at d,qjw hu hi nE.own,?_,⟨rfl,rfl,rfl,jd _,λ_ _ _=>rfl⟩⟩;simpa using nE.own
  ·rw[nC]at e;injection e with e1 e2 e3;subst e1;subst e3;obtain⟨v',w',k1,k2,k3,_⟩:=run_append_own (P:=prog) (w.at d) w0.heap.size 29 o.type 62 i (.agg #[.string ⟨#[]⟩,.string ⟨#[]⟩]) 2 32 hu hi hz hs hb rfl (by decide) ov n xs nE.own ⟨g,0,none⟩ kk c (r.take (kk*2))
    (by rw[aV,hr.1];omega)
    (λj u hj=>by
     have jO:j<kk*2:=by
      have:=(bw.1 hj).1;rw[aV]at this;omega
     rw[aZ jO]at hj;rw[<-h5,aZ (by omega)]at hj;have hgh:w.heap[g]?=some (.cells cur 62 (0,0)):=(h.keep g (hG g h1).1).trans h2;have ea:(⟨g,0,none⟩:Addr).add j=⟨g,j,none⟩:=by rw[Addr.add_lit,cz]
     rw[ea];show w.cell? ⟨g,j,none⟩=some u;simp only[aH,hgh]
     simpa using hj)
    (λu hu=>by
     have hm:u∈cur.toList:=by
      have:=aP hu;rw[<-h5]at this;exact aP this
     obtain⟨s,rfl⟩:=h6 u hm
     rfl)
    (by unfold bi;omega) (by omega) nE.size
   exact⟨v',w',k1,k2,k3⟩
 obtain⟨v',w',k1,k2,k3⟩:=eT;have TA:(ai (zY ov (.slice sa kk c)) o).run XG.P (w.at d)=.ok (.value v') w':=by
  unfold ai;show Sem.run prog _ _=_;simp only[dZ,resolve,invoke,builtin,Sem.run_bind,Sem.run_pure,Result.andThen_ok,bH,aY,cx,zY,k1]
 have hvx:VR XG.F ρ (.slice sa kk c) (.slice sa kk c):=by
  rcases hr.2 with⟨e,_⟩|⟨g,cap,cur,e,h1,_⟩
  ·rw[nC]at e;injection e with e1 e2 e3;subst e1;exact .jq _ _
  ·rw[nC]at e;injection e with e1 e2 e3;subst e1;exact .slice (h.le _ _ (hG g h1).2)
 have kJ:EvR XG.F fb ρ (zY ov (.slice sa kk c)) (zY ov (.slice sa kk c)):=by
  refine⟨λx hx=>?_,λ_=>rfl⟩;unfold zY;split
  ·exact h.vr
  ·exact hvx
  ·exact Ho (λ_ h=>h) _ hx
  ·exact Cu
 obtain⟨ρ1,m1,m2,m3,m4,m5⟩:=q42 rfl L6 fJ kJ nE.wr TA;have Bq:∀b,rng ρ1 b->¬SB b:=λb hb hs=>by
  rcases m4.new b hb with h1|h1
  ·exact h.apart b h1 hs
  ·have:=zD b hs;have h2:w.heap.size<=b:=h1;have:=h.size;omega
 have hst:=bg (P:=prog) (main:=true) (b:=bS) (k:=k) (cs:=cs) (rest:=[11]) (a:=ah T []) (w:=w.at d) ho dX (by decide) (by rw[jX];exact TA);have tF:TlS ρ0 w0 SB (n+kk) (xs++r.take (kk*2)) v' ρ1 w':=by
  refine⟨Rel.le_trans h.le m1,m2,m3,m5 h.nb,k2,λb hb=>?_,xlt h.size k3.size,Bq,k3.os.trans h.os,k3.output.trans h.output⟩;refine(k3.block b (xll hb h.size) λe=>?_).trans (h.keep b hb);have:=(h.own.lt b e.symm).1;omega
 refine⟨_,w',_,hst,k3.size,λe he=>?_,?_⟩
 ·have:=br he;rw[jX]at this;exact P6 (m4.ev e this) Bq m4.low
 ·rw[hd];have hTs:TH (T.setIfInBounds 39 v') ((39,v')::l'):=hT.set v' (by decide) λp hp=>⟨(sU p hp).1,(sU p hp).2.1⟩
  change BGo cs (bS.at ⟨T.setIfInBounds 39 v',[]⟩ (.inRegion R16 [11]::k)) w' SB Z;obtain⟨o1,uw,iK,hd1,kI⟩:∃o,R16[11]?=some o/\o.op=.assign (.tmp 39)/\o.dst=some 13/\o.guard=none:=⟨_,rfl,rfl,rfl,rfl⟩
  refine BGo.val hTs v' uw hd1 kI (by decide) (l':=l') (λp hp=>⟨.tail _ hp,(sU p hp).2.2⟩) (λe he hc w=>?_) λT1 Jm=>nx T1 v' ρ1 w' tF Jm;have VD:=he (39,v') (.head _);unfold ai;constructor
  ·simp[go_sem,iK,VD]
  ·simp[go_sem,iK,VD]
end
section
variable {cs:List am} {SB:Blocks} {Z:am->ae->Prop} {k:List Item} {T:Array ag} {w:ae} {ov lv:ag} {fs:Array ag} {most:Int}
theorem ja6 (hi:i<4) (hv:fs[i]?=some lv) (hT:TH T [(13,ov),(25,.agg fs),(26,.int .i64 i),(3,.int .i64 most)])
  (n:∀T',TH T' [(15,lv),(13,ov),(25,.agg fs),(26,.int .i64 i),(3,.int .i64 most)]->BGo cs (bS.at ⟨T',[]⟩ (.code (.region 16 R16 false)::k)) w SB Z):
  BGo cs (bS.at ⟨T,[]⟩ (.code tIn::k)) w SB Z:=by
 rw[ja5];refine BGo.sil (Sil.ctl (λw1=>aE) (Sil.ctl (λw1=>aC) (.refl _ _))) ?_;change BGo cs (bS.at ⟨T,[]⟩ (.inRegion R15 [0,1]::_)) _ _ _;obtain⟨o150,jdp,PU,F8,jc8⟩:∃o,R15[0]?=some o/\o.op=.index 134 (.tmp 25) (.tmp 26)/\o.dst=some 28/\o.guard=none:=⟨_,rfl,rfl,rfl,rfl⟩
 refine BGo.val hT (lv) jdp F8 jc8 (by decide) (l':=[(13,ov),(25,.agg fs),(26,.int .i64 i),(3,.int .i64 most)]) (by simp) (λe he hc w=>?_) λT hT=>?_
 ·have zH:=he (26,.int .i64 i) (by simp);have VO:=he (25,.agg fs) (by simp);unfold ai;constructor
  ·simp[go_sem,PU,zH,VO,hv,Instr.index,part];try(intro h4;omega)
  ·simp[go_sem,PU,zH,VO,hv,Instr.index,part];try(intro h4;omega)
 obtain⟨o151,jdq,PS,F7,jc9⟩:∃o,R15[1]?=some o/\o.op=.assign (.tmp 28)/\o.dst=some 15/\o.guard=none:=⟨_,rfl,rfl,rfl,rfl⟩
 refine BGo.val hT (lv) jdq F7 jc9 (by decide) (l':=[(13,ov),(25,.agg fs),(26,.int .i64 i),(3,.int .i64 most)]) (by simp) (λe he hc w=>?_) λT hT=>?_
 ·have VN:=he (28,lv) (by simp);unfold ai;constructor
  ·simp[go_sem,PS,VN]
  ·simp[go_sem,PS,VN]
 refine BGo.sil (Sil.ctl (λw1=>au) (.refl _ _)) ?_;exact n T hT
theorem tCut {m nn kk:Nat} {oa:Option Addr} {oc:Nat} (nC:lv=.slice sa m c) (wZ:ov=.slice oa nn oc) (h0:(nn:Int)<=most) (h1:most<=9223372036854775807) (nD:(kk:Int)=if most-nn<m then most-nn else m) (U4:m<=c)
  (hT:TH T [(15,lv),(13,ov),(25,.agg fs),(26,.int .i64 i),(3,.int .i64 most)])
  (n:∀T',TH T' [(38,.slice sa kk c),(29,ov),(25,.agg fs),(26,.int .i64 i),(3,.int .i64 most)]->BGo cs (bS.at ⟨T',[]⟩ (.inRegion R16 [10,11]::k)) w SB Z):
  BGo cs (bS.at ⟨T,[]⟩ (.code (.region 16 R16 false)::k)) w SB Z:=by
 subst nC;subst wZ;have hkm:kk<=m:=by split at nD<;>omega
 have vO:kk<=c:=by omega
 have mP:IntKind.i64.wrap (most-nn)=most-nn:=by rw[IntKind.wrap_i64];omega
 refine BGo.sil (Sil.ctl (λw1=>aC) (.refl _ _)) ?_;change BGo cs (bS.at ⟨T,[]⟩ (.inRegion R16 [0,1,2,3,4,5,6,7,8,9,10,11]::_)) _ _ _;obtain⟨o160,jdr,PO,F6,jda⟩:∃o,R16[0]?=some o/\o.op=.move (.tmp 13)/\o.dst=some 29/\o.guard=none:=⟨_,rfl,rfl,rfl,rfl⟩
 refine BGo.val hT (.slice oa nn oc) jdr F6 jda (by decide) (l':=[(15,.slice sa m c),(13,.slice oa nn oc),(25,.agg fs),(26,.int .i64 i),(3,.int .i64 most)]) (by simp) (λe he hc w=>?_) λT hT=>?_
 ·have zJ:=he (13,.slice oa nn oc) (by simp);unfold ai;constructor
  ·simp[go_sem,PO,zJ]
  ·simp[go_sem,PO,zJ]
 obtain⟨o161,jds,PN,jcx,jdb⟩:∃o,R16[1]?=some o/\o.op=.move (.tmp 15)/\o.dst=some 30/\o.guard=none:=⟨_,rfl,rfl,rfl,rfl⟩
 refine BGo.val hT (.slice sa m c) jds jcx jdb (by decide) (l':=[(29,.slice oa nn oc),(15,.slice sa m c),(13,.slice oa nn oc),(25,.agg fs),(26,.int .i64 i),(3,.int .i64 most)]) (by simp) (λe he hc w=>?_) λT hT=>?_
 ·have FE:=he (15,.slice sa m c) (by simp);unfold ai;constructor
  ·simp[go_sem,PN,FE]
  ·simp[go_sem,PN,FE]
 obtain⟨o162,jdt,PL,jcy,jdc⟩:∃o,R16[2]?=some o/\o.op=.move (.tmp 15)/\o.dst=some 31/\o.guard=none:=⟨_,rfl,rfl,rfl,rfl⟩
 refine BGo.val hT (.slice sa m c) jdt jcy jdc (by decide) (l':=[(30,.slice sa m c),(29,.slice oa nn oc),(15,.slice sa m c),(13,.slice oa nn oc),(25,.agg fs),(26,.int .i64 i),(3,.int .i64 most)]) (by simp) (λe he hc w=>?_) λT hT=>?_
 ·have FE:=he (15,.slice sa m c) (by simp);unfold ai;constructor
  ·simp[go_sem,PL,FE]
  ·simp[go_sem,PL,FE]
 obtain⟨o163,jdu,PK,jcz,jdd⟩:∃o,R16[3]?=some o/\o.op=.call {callee:=.builtin .len,args:=#[.tmp 31],argTypes:=#[29]}/\o.dst=some 32/\o.guard=none:=⟨_,rfl,rfl,rfl,rfl⟩
 refine BGo.val hT (.int .i64 m) jdu jcz jdd (by decide) (l':=[(31,.slice sa m c),(30,.slice sa m c),(29,.slice oa nn oc),(15,.slice sa m c),(13,.slice oa nn oc),(25,.agg fs),(26,.int .i64 i),(3,.int .i64 most)]) (by simp) (λe he hc w=>?_) λT hT=>?_
 ·have VK:=he (31,.slice sa m c) (by simp);unfold ai;constructor
  ·simp[go_sem,PK,VK,bK]
  ·simp[go_sem,PK,VK,bK]
 obtain⟨o164,jdv,PG,jc0,jde⟩:∃o,R16[4]?=some o/\o.op=.move (.tmp 3)/\o.dst=some 33/\o.guard=none:=⟨_,rfl,rfl,rfl,rfl⟩
 refine BGo.val hT (.int .i64 most) jdv jc0 jde (by decide) (l':=[(32,.int .i64 m),(31,.slice sa m c),(30,.slice sa m c),(29,.slice oa nn oc),(15,.slice sa m c),(13,.slice oa nn oc),(25,.agg fs),(26,.int .i64 i),(3,.int .i64 most)]) (by simp) (λe he hc w=>?_) λT hT=>?_
 ·have b3:=he (3,.int .i64 most) (by simp);unfold ai;constructor
  ·simp[go_sem,PG,b3]
  ·simp[go_sem,PG,b3]
 obtain⟨o165,jdw,PE,jc1,jdf⟩:∃o,R16[5]?=some o/\o.op=.move (.tmp 13)/\o.dst=some 34/\o.guard=none:=⟨_,rfl,rfl,rfl,rfl⟩
 refine BGo.val hT (.slice oa nn oc) jdw jc1 jdf (by decide) (l':=[(33,.int .i64 most),(32,.int .i64 m),(31,.slice sa m c),(30,.slice sa m c),(29,.slice oa nn oc),(15,.slice sa m c),(13,.slice oa nn oc),(25,.agg fs),(26,.int .i64 i),(3,.int .i64 most)]) (by simp) (λe he hc w=>?_) λT hT=>?_
 ·have zJ:=he (13,.slice oa nn oc) (by simp);unfold ai;constructor
  ·simp[go_sem,PE,zJ]
  ·simp[go_sem,PE,zJ]
 obtain⟨o166,jdx,PD,jc2,jdg⟩:∃o,R16[6]?=some o/\o.op=.call {callee:=.builtin .len,args:=#[.tmp 34],argTypes:=#[29]}/\o.dst=some 35/\o.guard=none:=⟨_,rfl,rfl,rfl,rfl⟩
 refine BGo.val hT (.int .i64 nn) jdx jc2 jdg (by decide) (l':=[(34,.slice oa nn oc),(33,.int .i64 most),(32,.int .i64 m),(31,.slice sa m c),(30,.slice sa m c),(29,.slice oa nn oc),(15,.slice sa m c),(13,.slice oa nn oc),(25,.agg fs),(26,.int .i64 i),(3,.int .i64 most)]) (by simp) (λe he hc w=>?_) λT hT=>?_
 ·have VH:=he (34,.slice oa nn oc) (by simp);unfold ai;constructor
  ·simp[go_sem,PD,VH,bK]
  ·simp[go_sem,PD,VH,bK]
 obtain⟨o167,jdy,Pz,F5,jdh⟩:∃o,R16[7]?=some o/\o.op=.binOp .sub 3 (.tmp 33) (.tmp 35) 3/\o.dst=some 36/\o.guard=none:=⟨_,rfl,rfl,rfl,rfl⟩
 refine BGo.val hT (.int .i64 (most-nn)) jdy F5 jdh (by decide) (l':=[(35,.int .i64 nn),(34,.slice oa nn oc),(33,.int .i64 most),(32,.int .i64 m),(31,.slice sa m c),(30,.slice sa m c),(29,.slice oa nn oc),(15,.slice sa m c),(13,.slice oa nn oc),(25,.agg fs),(26,.int .i64 i),(3,.int .i64 most)]) (by simp) (λe he hc w=>?_) λT hT=>?_
 ·have VI:=he (33,.int .i64 most) (by simp);have VG:=he (35,.int .i64 nn) (by simp);unfold ai;constructor
  ·simp[go_sem,Pz,VI,VG,mP]
  ·simp[go_sem,Pz,VI,VG,mP]
 obtain⟨o168,jdz,Py,F4,jdi⟩:∃o,R16[8]?=some o/\o.op=.call {callee:=.builtin .min,args:=#[.tmp 32,.tmp 36],argTypes:=#[3,3]}/\o.dst=some 37/\o.guard=none:=⟨_,rfl,rfl,rfl,rfl⟩
 refine BGo.val hT (.int .i64 kk) jdz F4 jdi (by decide) (l':=[(36,.int .i64 (most-nn)),(35,.int .i64 nn),(34,.slice oa nn oc),(33,.int .i64 most),(32,.int .i64 m),(31,.slice sa m c),(30,.slice sa m c),(29,.slice oa nn oc),(15,.slice sa m c),(13,.slice oa nn oc),(25,.agg fs),(26,.int .i64 i),(3,.int .i64 most)]) (by simp) (λe he hc w=>?_) λT hT=>?_
 ·have VJ:=he (32,.int .i64 m) (by simp);have VF:=he (36,.int .i64 (most-nn)) (by simp);unfold ai;constructor
  ·simp[go_sem,Py,VJ,VF,dy,dz,nD]
  ·simp[go_sem,Py,VJ,VF,dy,dz,nD]
 obtain⟨o169,jd0,Px,jc3,jdj⟩:∃o,R16[9]?=some o/\o.op=.slice 29 (.tmp 30) none (some (.tmp 37)) none/\o.dst=some 38/\o.guard=none:=⟨_,rfl,rfl,rfl,rfl⟩
 refine BGo.val hT (.slice sa kk c) jd0 jc3 jdj (by decide) (l':=[(37,.int .i64 kk),(36,.int .i64 (most-nn)),(35,.int .i64 nn),(34,.slice oa nn oc),(33,.int .i64 most),(32,.int .i64 m),(31,.slice sa m c),(30,.slice sa m c),(29,.slice oa nn oc),(15,.slice sa m c),(13,.slice oa nn oc),(25,.agg fs),(26,.int .i64 i),(3,.int .i64 most)]) (by simp) (λe he hc w=>?_) λT hT=>?_
 ·have VL:=he (30,.slice sa m c) (by simp);have VE:=he (37,.int .i64 kk) (by simp);unfold ai;constructor
  ·simp[go_sem,Px,VL,VE,Instr.sliceAt,Instr.slice,Instr.sliceBounds,Instr.sliceBound,vO]
  ·simp[go_sem,Px,VL,VE,Instr.sliceAt,Instr.slice,Instr.sliceBounds,Instr.sliceBound,vO]
 refine n T (hT.sub ?_);simp
end
def jE (most:Nat) (m:Nat->Nat) (rows:Nat->List ag):Nat->Nat×List ag
 |0=>(0,[])
 |i+1=>((jE most m rows i).1+min (m i) (most-(jE most m rows i).1),(jE most m rows i).2++(rows i).take (min (m i) (most-(jE most m rows i).1)*2))
theorem q62 (most:Nat) (m:Nat->Nat) (rows:Nat->List ag) (i:Nat):(jE most m rows i).1<=most:=by
 induction i with
 |zero=>exact xzl _
 |succ i ih=>simp only[jE];omega
theorem Sn (most:Nat) (m:Nat->Nat) (rows:Nat->List ag) {B:Nat}:∀i,(∀j,j<i->m j<=B)->(jE most m rows i).1<=i*B
 |0,_=>xzl _
 |i+1,h=>by
  have:=Sn most m rows i λj hj=>h j (by omega);have:=h i (by omega);simp only[jE];rw[Nat.succ_mul];omega
section
variable {cs:List am} {SB:Blocks} {Z:am->ae->Prop} {k:List Item} {ρ0:Rel} {w0:ae} {fs:Array ag} {lv:Nat->ag} {m:Nat->Nat} {rows:Nat->List ag} {most:Nat} {Gb:Blocks}
theorem jfd (xI:∀i,i<4->fs[i]?=some (lv i)) (hG:∀b,Gb b->b<w0.heap.size/\ρ0 b b) (hr:∀i,i<4->mY Gb w0 (lv i) (m i) (rows i)) (zD:∀b,SB b->b<w0.heap.size) (hm:∀i,i<4->m i<=268435456) (Cn:most<=9223372036854775807)
  (nx:∀T' oh ρ' w',TlS ρ0 w0 SB (jE most m rows 4).1 (jE most m rows 4).2 oh ρ' w'->TH T' [(13,oh)]->BGo cs (bS.at ⟨T',[]⟩ (.code tE::k)) w' SB Z):
  ∀r i,i+r=4->∀T ov ρ w,TlS ρ0 w0 SB (jE most m rows i).1 (jE most m rows i).2 ov ρ w->TH T [(13,ov),(25,.agg fs),(26,.int .i64 i),(3,.int .i64 most)]->
   BGo cs (bS.at ⟨T,[]⟩ (.code tL::.inLoop tL::.inBlock 2::.code tE::k)) w SB Z:=by
 intro r;induction r with
 |zero=>
  intro i hi T ov ρ w h hT;obtain rfl:i=4:=by omega
  refine BGo.sil (TM hT.1 (hT.2 (26,.int .i64 ((4:Nat):Int)) (by simp)) (b:=false) (xdf (by decide))) ?_;refine BGo.sil (Sil.ctl (λw1=>stepG_exit rfl) (.refl _ _)) ?_;exact nx _ ov ρ w h ((hT.set (l':=[(13,ov)]) (.bool false) (by decide) (by simp)).sub (by simp))
 |succ r ih=>
  intro i hi T ov ρ w h hT;have vP:i<4:=by omega
  refine BGo.sil (TM hT.1 (hT.2 (26,.int .i64 i) (by simp)) (b:=true) (xdt (by omega))) ?_;refine BGo.sil (Sil.ctl (λw1=>de) (Sil.ctl (λw1=>aE) (Sil.ctl (λw1=>bB) (.refl _ _)))) ?_;have Jm:TH (T.setIfInBounds 27 (.bool true)) [(13,ov),(25,.agg fs),(26,.int .i64 i),(3,.int .i64 most)]:=(hT.set (l':=[(13,ov),(25,.agg fs),(26,.int .i64 i),(3,.int .i64 most)]) (.bool true) (by decide) (by simp)).sub (by simp);generalize T.setIfInBounds 27 (.bool true)=T1 at Jm⊢;refine ja6 vP (xI i vP) Jm λT2 Jl=>?_;have hle:=q62 most m rows i;have xE:=hm i vP;have wZ:∃oa oc,ov=.slice oa (jE most m rows i).1 oc:=by
   rcases h.own.2 with⟨rfl,e⟩|⟨g,cap,cur,rfl,_⟩
   ·exact⟨none,0,by rw[e]⟩
   ·exact⟨_,_,rfl⟩
  obtain⟨oa,oc,wZ⟩:=wZ;have nC:∃sa c,lv i=.slice sa (m i) c/\m i<=c:=by
   rcases(hr i vP).2 with⟨e,e2⟩|⟨g,cap,cur,e,_,_,h1,_⟩
   ·exact⟨none,0,by rw[e,e2],by omega⟩
   ·exact⟨_,_,e,h1⟩
  obtain⟨sa,c,nC,U4⟩:=nC;have nD:((min (m i) (most-(jE most m rows i).1):Nat):Int)=if(most:Int)-((jE most m rows i).1:Nat)<(m i:Nat)then(most:Int)-((jE most m rows i).1:Nat)else(m i:Nat):=by
   split<;>omega
  refine tCut nC wZ (by omega) (by omega) nD U4 Jl λT3 FB=>?_;have hb:=Sn most m rows (B:=268435456) i λj hj=>hm j (by omega);have fP:i*268435456<=3*268435456:=bX _ (by omega);refine q61 (kk:=min (m i) (most-(jE most m rows i).1)) (l':=[(25,.agg fs),(26,.int .i64 i),(3,.int .i64 most)]) h hG nC (hr i vP) (Nat.min_le_left _ _) zD (by omega) FB (by simp) (by simp) (by simp) λT4 oh ρ' w' h' Nf=>?_;refine BGo.sil (jfe vP Nf.1 (Nf.2 (26,.int .i64 i) (by simp))) ?_;refine ih (i+1) (by omega) _ oh ρ' w' h' ?_;have e1:=Nf.set (l':=[(13,oh),(25,.agg fs),(3,.int .i64 most)]) (d:=40) (.int .i64 ((i+1:Nat):Int)) (by decide) (by simp);exact(e1.set (l':=[(13,oh),(25,.agg fs),(3,.int .i64 most)]) (d:=26) (.int .i64 ((i+1:Nat):Int)) (by decide) (by simp)).sub (by simp)
end
theorem Same.trans {b c:ae} (h:Same a b) (k:Same b c):Same a c:=⟨k.heap.trans h.heap,k.os.trans h.os,k.output.trans h.output⟩
theorem Same.at (w:ae) (d:Nat):Same w (w.at d):=⟨rfl,rfl,rfl⟩
theorem Same.re (w:ae) (τ:Tape):Same w (re w τ):=⟨rfl,rfl,rfl⟩
def qp (N:Blocks) (kv:List ag) (cs:List am) (fr:am) (w:ae) (eU:List am) (Z:am->ae->Prop):Prop:=
 ∀(wc:ae),Same w wc->∀(gs:Array aq) (sl:Option (Nat×Nat)) (t:bp) (SB:Blocks) (ρ:Rel) (q:Nat->Nat),Co XG fb blG SB ρ gs fr cs wc t q->(∀b,N b->¬SB b)->(∀v∈kv,VR XG.F ρ v v)->
  ∃(eZ:Array aq) (eH:am) (w':ae) (sl':Option (Nat×Nat)) (t':bp) (NF:Blocks) (ρ':Rel) (q':Nat->Nat),Runs XG.P gs wc sl t eZ w' sl' t'/\Z eH w'/\Co XG fb blG NF ρ' eZ eH eU w' t' q'/\(∀b,N b->¬NF b)/\∀v∈kv,VR XG.F ρ' v v
section
variable {N:Blocks} {kv:List ag} {cs eU zG:List am} {fr jo iF:am} {w w1:ae} {Z Z':am->ae->Prop} {b:am} {a:Act} {k:List Item}
theorem qp.done (h:∀wc,Same w wc->Z fr wc):qp N kv cs fr w cs Z:=λwc hs gs sl t SB ρ q hc hN hK=>⟨gs,fr,wc,sl,t,SB,ρ,q,⟨0,rfl⟩,h wc hs,hc,hN,hK⟩
theorem qp.then (h:qp N kv cs fr w eU Z) (k:∀jo w1,Z jo w1->qp N kv eU jo w1 zG Z'):qp N kv cs fr w zG Z':=λwc hs gs sl t SB ρ q hc hN hK=>by
 obtain⟨lq,jo,w1,iX,t1,NE,ρ1,q1,h1,h2,h3,Dt,hK1⟩:=h wc hs gs sl t SB ρ q hc hN hK;obtain⟨rX,iF,w2,rz,t2,BD,ρ2,q2,h4,h5,h6,h7⟩:=k jo w1 h2 w1 (Same.refl _) lq iX t1 NE ρ1 q1 h3 Dt hK1;exact⟨rX,iF,w2,rz,t2,BD,ρ2,q2,h1.trans h4,h5,h6,h7⟩
theorem qp.mono (h:qp N kv cs fr w eU Z) (k:∀jo w1,Z jo w1->Z' jo w1):qp N kv cs fr w eU Z':=λwc hs gs sl t SB ρ q hc hN hK=>
 let⟨lq,jo,w1,iX,t1,NE,ρ1,q1,h1,h2,h3⟩:=h wc hs gs sl t SB ρ q hc hN hK
 ⟨lq,jo,w1,iX,t1,NE,ρ1,q1,h1,k _ _ h2,h3⟩
abbrev FSt (ρ:Rel) (f:am):Prop:=FR XG fb true ρ (wt f []) (wt f [])
abbrev FSb (ρ:Rel) (f:am):Prop:=blG f.fn=false->FSt ρ f
theorem qp.sil (hs:Sil XG.P fr cs jo eU) (hf:∀ρ,FSb ρ fr->(∀c∈cs,FSb ρ c)->(∀v∈kv,VR XG.F ρ v v)->FSb ρ jo/\∀c∈eU,FSb ρ c) (n:qp N kv eU jo w zG Z):qp N kv cs fr w zG Z:=λwc s gs sl t SB ρ q hc hN hK=>by
 obtain⟨fK,tu⟩:=hf ρ hc.fr hc.cs hK;obtain⟨lq,d,iX,t1,q1,h1,h2,h3⟩:=hc.sil (sl:=sl) hs fK tu;obtain⟨rX,iF,w2,rz,t2,BD,ρ2,q2,h4,h5,h6⟩:=n (wc.at d) (s.trans (Same.at wc d)) lq iX t1 SB ρ q1 h3 hN hK;exact⟨rX,iF,w2,rz,t2,BD,ρ2,q2,h1.trans h4,h5,h6⟩
theorem qp.ctl {t1:List Item} (h:∀w,aW XG.P true (G fr cs) w=.go (G (wt fr t1) cs) w #[]) (n:qp N kv cs (wt fr t1) w eU Z):qp N kv cs fr w eU Z:=
 qp.sil (.step h (.refl _ _)) (λ_ h1 h2 _=>⟨h1,h2⟩) n
theorem qp.seq {x y:Code} (n:qp N kv cs (b.at a (.code x::.code y::k)) w eU Z):qp N kv cs (b.at a (.code (.seq x y)::k)) w eU Z:=qp.ctl (λ_=>aE) n
theorem qp.skip (n:qp N kv cs (b.at a k) w eU Z):qp N kv cs (b.at a (.code .skip::k)) w eU Z:=qp.ctl (λ_=>de) n
theorem qp.cond {c:cw} {x y:Code} {t:Bool} (h:a.eval c=.bool t) (n:qp N kv cs (b.at a (.code (if t then x else y)::k)) w eU Z):qp N kv cs (b.at a (.code (.cond c x y)::k)) w eU Z:=qp.ctl (λ_=>stepG_cond h) n
theorem qp.block {c:Code} (n:qp N kv cs (b.at a (.code c::.inBlock id::k)) w eU Z):qp N kv cs (b.at a (.code (.block id c)::k)) w eU Z:=qp.ctl (λ_=>bB) n
theorem qp.inBlock (n:qp N kv cs (b.at a k) w eU Z):qp N kv cs (b.at a (.inBlock id::k)) w eU Z:=qp.ctl (λ_=>cj) n
theorem qp.loop {c:Code} (n:qp N kv cs (b.at a (.code c::.inLoop c::k)) w eU Z):qp N kv cs (b.at a (.code (.loop c)::k)) w eU Z:=qp.ctl (λ_=>stepG_loop) n
theorem qp.inLoop {c:Code} (n:qp N kv cs (b.at a (.code c::.inLoop c::k)) w eU Z):qp N kv cs (b.at a (.inLoop c::k)) w eU Z:=qp.ctl (λ_=>stepG_inLoop) n
theorem qp.exit (h:cn id k=some k') (n:qp N kv cs (b.at a k') w eU Z):qp N kv cs (b.at a (.code (.exit id)::k)) w eU Z:=qp.ctl (λ_=>stepG_exit h) n
theorem qp.region (n:qp N kv cs (b.at a (.inRegion ops (cZ ops.size)::k)) w eU Z):qp N kv cs (b.at a (.code (.region id ops false)::k)) w eU Z:=qp.ctl (λ_=>aC) n
theorem qp.regionEnd (n:qp N kv cs (b.at a k) w eU Z):qp N kv cs (b.at a (.inRegion ops []::k)) w eU Z:=qp.ctl (λ_=>au) n
theorem qp.code {c:Code} {Q:Exit->Act->ae->Prop} (iT:blG b.fn=false) (hc:codeOk XG.P XG.P fb true c=true) (pI:Plain k Q) (pV:∀e a w wc,Same w wc->Q e a w->Q e a wc) (hp:∀wc,Same w wc->c.wp XG.P Q a wc)
  (n:∀e a' w' eH,Q e a' w'->yG b k e a' eH->qp N kv cs eH w' eU Z):qp N kv cs (b.at a (.code c::k)) w eU Z:=λwc s gs sl t SB ρ q gN hN hK=>by
 obtain⟨lq,jo,w1,iX,t1,q1,ρ1,h1,_,hle,⟨e,a',h2,h3⟩,h4⟩:=gN.code (sl:=sl) rfl L6 iT hc pI pV λτ _=>hp (re wc τ) (s.trans (Same.re wc τ));obtain⟨rX,iF,w2,rz,t2,BD,ρ2,q2,h5,h6,h7⟩:=n e a' w1 jo h2 h3 w1 (Same.refl _) lq iX t1 SB ρ1 q1 h4 hN λv hv=>(hK v hv).mono hle;exact⟨rX,iF,w2,rz,t2,BD,ρ2,q2,h1.trans h5,h6,h7⟩
theorem qp.op {ops:Array Oper} {i:Nat} {td:List Nat} {o:Oper} {Q:Act->ae->Prop} (iT:blG b.fn=false) (id:Nat) (ho:ops[i]?=some o) (fJ:l9 XG.P XG.P fb true (Sim.bare o)=true) (dX:aa o (aA ops a.tmps)=true) (pV:∀a w wc,Same w wc->Q a w->Q a wc)
  (hp:∀wc,Same w wc->(Code.region id #[Sim.bare o] false).wp XG.P (λe a' w'=>e=.normal/\Q a' w') a wc)
  (n:∀a' w',Q a' w'->qp N kv cs (b.at a' (.inRegion ops td::k)) w' eU Z):qp N kv cs (b.at a (.inRegion ops (i::td)::k)) w eU Z:=λwc s gs sl t SB ρ q gN hN hK=>by
 obtain⟨lq,jo,w1,iX,t1,q1,ρ1,h1,_,hle,⟨a',h2,rfl⟩,h4⟩:=gN.op (sl:=sl) rfl L6 iT ho fJ dX pV (id:=id) λτ _=>hp (re wc τ) (s.trans (Same.re wc τ));obtain⟨rX,iF,w2,rz,t2,BD,ρ2,q2,h5,h6,h7⟩:=n a' w1 h2 w1 (Same.refl _) lq iX t1 SB ρ1 q1 h4 hN λv hv=>(hK v hv).mono hle;exact⟨rX,iF,w2,rz,t2,BD,ρ2,q2,h1.trans h5,h6,h7⟩
def Leaves (fr:am) (v:ag):Prop:=fr.mode=.returning/\fr.defers=[]/\fr.kind=.normal/\∃fn,XG.P.funcs[fr.fn]?=some fn/\∀w,(results fn fr.tmps).runT XG.P w #[]=(.ok v w,#[])
def Ret (f:aD) (R:ag->ae->Prop) (fr:am) (w:ae):Prop:=
 fr.fn=f/\∃v,Leaves fr v/\(∀ρ,jy XG.F ρ fr.tmps.toList fr.tmps.toList->VR XG.F ρ v v)/\R v w
def LZ (N:Blocks) (kv:List ag) (f:aD) (args:Array ag) (w:ae) (R:ag->ae->Prop):Prop:= ∀cs,qp N kv cs (aw XG.P f args .normal) w cs (Ret f R)
def wI (N:Blocks) (kv:List ag) (f:aD) (args:Array ag) (w:ae) (R:ag->ae->Prop):Prop:= ∀c cs,qp N kv (c::cs) (aw XG.P f args .normal) w cs (λfr w'=>∃v,fr=c.finish v/\R v w')
theorem wI.mono {args:Array ag} {R':ag->ae->Prop} (h:wI N kv f args w R) (k:∀v w,R v w->R' v w):wI N kv f args w R':=
 λc cs=>(h c cs).mono λ_ _ ⟨v,h1,h2⟩=>⟨v,h1,k _ _ h2⟩
theorem Xb (P:aN) (f:aD) (args:Array ag):(aw P f args .normal).fn=f:=rfl
theorem FSt.enter {ρ:Rel} {f:aD} {fn:Func} {args:Array ag} (hf:XG.P.funcs[f]?=some fn) (ha:jy XG.F ρ args.toList args.toList):FSt ρ (aw XG.P f args .normal):=by
 show FR XG fb true ρ (wt (aw XG.P f args .normal) []) (wt (aw XG.P f args .normal) []);unfold aw;simp only[hf];refine⟨rfl,⟨fn,hf,hf⟩,?_,.nil,.nil,rfl,.inl rfl,rfl,rfl,.inl ⟨rfl,rfl⟩⟩;refine ha.Aw ?_;rw[Array.toList_replicate];exact jy.replicate Cu _
theorem FSt.finish {f:am} {v:ag} (h:FSt ρ f) (hv:VR XG.F ρ v v):FSt ρ (f.finish v):=by
 have key:∀(tm:Array ag) (td:List Item),jy XG.F ρ tm.toList tm.toList->FSt ρ {f with tmps:=tm,todo:=td}:=λtm td ht=>⟨rfl,h.same,ht,.nil,h.defers,rfl,h.run,h.kind,h.kind',h.round⟩
 unfold dB;split
 ·refine key _ _ ?_;split
  ·exact h.tmps.D6 _ hv
  ·exact h.tmps
 ·exact key _ _ h.tmps
 ·exact key _ _ h.tmps
 ·exact key _ _ h.tmps
 ·exact key _ _ (.cons hv .nil)
 ·exact h
theorem Frame.RJ (c:am) (v:ag):(c.finish v).fn=c.fn:=by
 unfold dB;split<;>first|rfl|(split<;>rfl)
theorem Tj {fr c:am} {v:ag} {w:ae} (h:Leaves fr v):aW XG.P true (G fr (c::cs)) w=.go (G (c.finish v) cs) w #[]:=by
 obtain⟨hm,hd,hk,fn,hf,hr⟩:=h;rw[zx _ _ _ _ _ hm];obtain⟨Dv,Gd,TL,Ej,D7,D9,Pp⟩:=fr;obtain rfl:Ej=[]:=hd;obtain rfl:D7=.returning:=hm;obtain rfl:D9=.normal:=hk;have hf:XG.P.funcs[Dv]?=some fn:=hf;have hr:(results fn Gd).runT XG.P w #[]=(.ok v w,#[]):=hr w;unfold unwind;dsimp only;rw[hf];dsimp only;rw[hr];rfl
theorem LZ.calls {args:Array ag} (iT:blG f=false) (hS:∀v w wc,Same w wc->R v w->R v wc) (h:LZ N kv f args w R):wI N kv f args w R:=λc cs=>by
 refine(h (c::cs)).then ?_;rintro jo w1 ⟨uH,v,hl,hv,hr⟩;exact qp.sil (.step (λw=>Tj hl) (.refl _ _)) (λρ h1 h2 _=>⟨λhb=>FSt.finish (h2 c (.head _) (by rw[<-Frame.RJ c v];exact hb)) (hv ρ (h1 (by rw[uH];exact iT)).tmps),λc hc=>h2 c (.tail _ hc)⟩) (qp.done λwc s=>⟨v,rfl,hS _ _ _ s hr⟩)
theorem qp.call {td:List Nat} {fn:Func} {args:Array ag} (ho:ops[i]?=some o) (hw:aa o (aA ops a.tmps)=true) (hk:b.kind≠.early)
  (ev:∀w,(ai a.eval o).run XG.P w=.ok (.enter f args) w/\(ai a.eval o).events XG.P w #[]=#[]) (hf:XG.P.funcs[f]?=some fn)
  (ic:∀ρ,FSb ρ (b.at a (.inRegion ops (i::td)::k))->(∀v∈kv,VR XG.F ρ v v)->blG f=false->jy XG.F ρ args.toList args.toList)
  (oJ:wI N kv f args w R) (n:∀v w',R v w'->qp N kv cs (b.at (a.put o.dst v) (.inRegion ops td::k)) w' eU Z):qp N kv cs (b.at a (.inRegion ops (i::td)::k)) w eU Z:=by
 have hs:∀w,aW XG.P true (G (b.at a (.inRegion ops (i::td)::k)) cs) w=.go (G (aw XG.P f args .normal) (b.at a (.inRegion ops (i::td)::k)::cs)) w #[]:=λw=>by
  rw[bT ho hw hk (ev w).1];unfold listed;rw[(ev w).2,bF]
 refine qp.sil (.step hs (.refl _ _)) (λρ h1 h2 hk=>⟨λhb=>FSt.enter hf (ic ρ h1 hk (by rw[<-Xb XG.P f args];exact hb)),λc hc=>?_⟩) ((oJ _ _).then ?_)
 ·rcases aF.1 hc with rfl|hc
  ·exact h1
  ·exact h2 c hc
 rintro jo w1 ⟨v,rfl,hr⟩;rw[Frame.finish_at,ho];exact n v w1 hr
end
end
end Ph
namespace Sim
open Go Go.Conc
def dg (ρ:Rel):Rel:=λa b=>a=b/\∃x,ρ x b
section
variable {F:aD->Prop} {ρ:Rel}
theorem wD {a b:Nat} (h:ρ a b):dg ρ b b:=⟨rfl,a,h⟩
mutual
theorem VR.right:∀{v v':ag},VR F ρ v v'->VR F (dg ρ) v' v'
 |_,_,.bool b=>.bool b
 |_,_,.int k n=>.int k n
 |_,_,.string s=>.string s
 |_,_,.nM=>.nM
 |_,_,.ptr r=>.ptr (wD r)
 |_,_,.jq n c=>.jq n c
 |_,_,.slice r=>.slice (wD r)
 |_,_,.o7=>.o7
 |_,_,.map r=>.map (wD r)
 |_,_,.func f r=>.func f r.right
 |_,_,.yield r=>.yield (wD r)
 |_,_,.nilFunc=>.nilFunc
 |_,_,.agg r=>.agg r.right
 |_,_,.tuple r=>.tuple r.right
theorem jy.right:∀{l l':List ag},jy F ρ l l'->jy F (dg ρ) l' l'
 |_,_,.nil=>.nil
 |_,_,.cons a b=>.cons a.right b.right
end
theorem ER.right {e e':bu} (h:ER F ρ e e'):ER F (dg ρ) e' e':=⟨h.key.right,h.val.right,rfl⟩
theorem EsR.right:∀{l l':List bu},EsR F ρ l l'->EsR F (dg ρ) l' l'
 |_,_,.nil=>.nil
 |_,_,.cons a b=>.cons a.right b.right
theorem DsR.right:∀{l l':List cY},DsR ρ l l'->DsR (dg ρ) l' l'
 |_,_,.nil=>.nil
 |_,_,.cons a b=>.cons (wD a) b.right
theorem oM.right {x x':Option Nat} (h:oM ρ x x'):oM (dg ρ) x' x':=by
 rcases h with⟨_,h⟩|⟨l,l',_,h,r⟩
 ·exact .inl ⟨h,h⟩
 ·exact .inr ⟨l',l',h,h,wD r⟩
variable {X:Cx} {Fb:aD->Bool} {wr:Bool}
theorem OR.right {o o':Obj} (h:OR X ρ o o'):OR X (dg ρ) o' o':=by
 cases h with
 |cells a b=>exact .cells a.right (.inl rfl)
 |map a=>exact .map a.right
 |stringIter s p=>exact .stringIter s p
 |yS a b c=>exact .yS a b c
 |mapIter r=>exact .mapIter (wD r)
 |loop a b c d e g=>exact .loop a.right (wD b) c d e g
 |number l r=>exact .number l (wD r)
 |AO=>exact .AO
 |deferred=>exact .deferred
theorem WR.right (h:WR X ρ w w') (hs:∀a,¬X.Sh a):WR X (dg ρ) w' w':=
 ⟨λh1 h2=>h1.1.symm.trans h2.1,λh1 h2=>h1.1.trans h2.1.symm,λ{a b} ⟨e,x,hx⟩=>by
  subst e;obtain⟨o,o',_,k2,k3⟩:=h.heap hx
  exact⟨o',o',k2,k2,k3.right⟩,λ_ _=>rfl,λa ha=>(hs a ha).elim⟩
end
end Sim
namespace Ph
section
open Go Go.Conc Go.ConcN Sim
section
variable {X:Cx} {Fb:aD->Bool} {wr:Bool} {ρ:Rel}
theorem Rb {f f':am} (h:FR X Fb wr ρ (wt f []) (wt f' [])):FR X Fb wr (dg ρ) (wt f' []) (wt f' []):=
 ⟨rfl,let⟨g,h1,h2⟩:=h.same;⟨g,by rw[h.fn];exact h1,by rw[h.fn];exact h2⟩,h.tmps.right,.nil,h.defers.right,rfl,by have:=h.run;rw[<-h.mode]at this;exact this,h.kind',h.kind',h.round.right⟩
end
theorem jaf (ρ:Rel):rng (dg ρ)=rng ρ:=by
 funext b;exact propext ⟨λ⟨_,_,h⟩=>h,λ⟨a,h⟩=>⟨b,rfl,a,h⟩⟩
theorem Ua (ρ:Rel):own XG ρ=rng ρ:=by
 funext b;exact propext ⟨λ⟨a,h,_⟩=>⟨a,h⟩,λ⟨a,h⟩=>⟨a,h,λh=>h⟩⟩
theorem Co.diag (h:Co XG fb blG SB ρ gs fr cs w t q):Co XG fb blG SB (dg ρ) gs fr cs w t q:=
 ⟨h.g0,h.leavers,h.past,by rw[Ua,jaf];have:=h.foot;rwa [Ua]at this,λhb=>Rb (h.fr hb),λc hc hb=>Rb (h.cs c hc hb),h.wr.right λ_ h=>h,h.nb⟩
end
section
open Go.Conc Go.ConcN Go.RowKit Go.Conc.Lib Go.ConcR.Gen Go.ConcN.Gen Go Sim
open Go.ConcR (KK wgBlock WgAt stA smA rd wr mk Payload Aside2 DC0 ofEvent_cell)
structure o6 (cl:Nat) (db mb:Nat->Nat) (es:Nat->Array bu) (ck:Nat->Nat) (w:ae):Prop where
 d:∀i,i<4->w.cell? ⟨cl,1+i*3+1,none⟩=some (.pointer (some ⟨db i,0,none⟩))
 b:∀i,i<4->w.heap[db i]?=some (.cells #[.map (some (mb i))] 130 (0,0))
 m:∀i,i<4->w.heap[mb i]?=some (.map (es i) (ck i))
section
variable {cl:Nat} {db mb:Nat->Nat} {es:Nat->Array bu} {ck:Nat->Nat} {w w1:ae}
theorem o6.to (h:o6 cl db mb es ck w) (kc:w1.heap[cl]?=w.heap[cl]?) (kd:∀i,i<4->w1.heap[db i]?=w.heap[db i]?) (km:∀i,i<4->w1.heap[mb i]?=w.heap[mb i]?):o6 cl db mb es ck w1:=
 ⟨λi hi=>(kr (a:=⟨cl,1+i*3+1,none⟩) kc).trans (h.d i hi),λi hi=>(kd i hi).trans (h.b i hi),λi hi=>(km i hi).trans (h.m i hi)⟩
theorem o6.ltc (h:o6 cl db mb es ck w):cl<w.heap.size:=by
 have:=h.d 0 (by decide);unfold aH at this;cases e:w.heap[cl]? with
 |none=>simp[e]at this
 |some o=>exact(kg e).1
theorem o6.ltd (h:o6 cl db mb es ck w) (i:Nat) (hi:i<4):db i<w.heap.size:=(kg (h.b i hi)).1
theorem o6.ltm (h:o6 cl db mb es ck w) (i:Nat) (hi:i<4):mb i<w.heap.size:=(kg (h.m i hi)).1
theorem o6.old (h:o6 cl db mb es ck w) (k:∀b,b<w.heap.size->w1.heap[b]?=w.heap[b]?):o6 cl db mb es ck w1:=
 h.to (k _ h.ltc) (λi hi=>k _ (h.ltd i hi)) (λi hi=>k _ (h.ltm i hi))
end
section
variable {cl:Nat} {db mb:Nat->Nat} {es:Nat->Array bu} {ck:Nat->Nat} {s t:ByteArray} {m:Nat->Nat} {rows:Nat->List ag} {cb ab tb C Wg:Nat} {F:Blocks} {w w1:ae}
structure FxS (cl:Nat) (db mb:Nat->Nat) (es:Nat->Array bu) (ck:Nat->Nat) (cb ab tb:Nat) (s t:ByteArray) (F:Blocks) (w:ae):Prop where
 clu:o6 cl db mb es ck w
 c:w.cell? ⟨cb,0,none⟩=some (.pointer (some ⟨cl,0,none⟩))
 f:w.cell? ⟨ab,0,none⟩=some (.string s)
 t:w.cell? ⟨tb,0,none⟩=some (.string t)
 Fc:F cb
 Ff:F ab
 Ft:F tb
 Fl:F cl
 Fd:∀i,i<4->F (db i)
 Fm:∀i,i<4->F (mb i)
theorem FxS.ext (h:FxS cl db mb es ck cb ab tb s t F w) (e:Ext F w w1):FxS cl db mb es ck cb ab tb s t F w1:=
 ⟨h.clu.to (e.keep _ h.Fl) (λi hi=>e.keep _ (h.Fd i hi)) (λi hi=>e.keep _ (h.Fm i hi)),(kr (a:=⟨cb,0,none⟩) (e.keep _ h.Fc)).trans h.c,(kr (a:=⟨ab,0,none⟩) (e.keep _ h.Ff)).trans h.f,(kr (a:=⟨tb,0,none⟩) (e.keep _ h.Ft)).trans h.t,h.Fc,h.Ff,h.Ft,h.Fl,h.Fd,h.Fm⟩
theorem FxS.sub {F':Blocks} (h:FxS cl db mb es ck cb ab tb s t F w) (k:∀b,F b->F' b):FxS cl db mb es ck cb ab tb s t F' w:=⟨h.clu,h.c,h.f,h.t,k _ h.Fc,k _ h.Ff,k _ h.Ft,k _ h.Fl,λi hi=>k _ (h.Fd i hi),λi hi=>k _ (h.Fm i hi)⟩
theorem Qj {Fp:aD->Prop} {ρ:Rel}:∀{l l':List ag},jy Fp ρ l l'->(∀x∈l,∃s,x=.string s)->l'=l
 |_,_,.nil,_=>rfl
 |_,_,.cons a b,h=>by
  obtain⟨s,rfl⟩:=h _ (.head _);cases a;rw[Qj b λx hx=>h x (.tail _ hx)]
theorem q6t {Sh:Nat->Prop} {v v':ag} {w:ae} (h:mY (λ_=>True) w v n xs) (hv:VR (λf=>fbP f=true) ρ v v') (hw:WN (XW Sh) ρ w w'):mY (rng ρ) w' v' n xs:=by
 refine⟨h.1,?_⟩;rcases h.2 with⟨rfl,e⟩|⟨g,cap,cur,rfl,_,h2,h3,h4,h5,h6⟩
 ·cases hv;exact .inl ⟨rfl,e⟩
 ·cases hv with
  | @slice b b' o sp n c hr=>
   obtain⟨τ,_,k⟩:=hw;obtain⟨o1,o2,k1,k2,k3⟩:=k.heap hr;have k1:w.heap[g]?=some o1:=k1;rw[h2]at k1;cases k1;cases k3 with
   | @cells c c' e z z' hc hz=>
    have Jj:c'=cur:=by
     have:=Qj hc h6;exact Array.ext' this
    subst Jj;have wU:z'=(0,0):=hz.elim id id;subst wU;exact .inr ⟨b',cap,c',rfl,⟨_,hr⟩,k2,h3,h4,h5,h6⟩
theorem Zb (hCW:C≠Wg) (iO:∀i,i<4->∀(F:aD->Prop) ρ,EsR F ρ (es i).toList (es i).toList)
  (uT:∀i,i<4->∀wl,wl.heap[db i]?=some (.cells #[.map (some (mb i))] 130 (0,1))->wl.heap[mb i]?=some (.map (es i) (ck i))->bU prog 53 #[.pointer (some ⟨db i,0,none⟩),.string s,.string t] wl fun|.returned v,w'=>mY (λ_=>True) w' v (m i) (rows i)|_,_=>False)
  (i:Nat) (hi:i<4) (F:Blocks) (w:ae) (kb:Nat) (hx:FxS cl db mb es ck cb ab tb s t F w) (hF:FOk F (λ_=>False) w) (hk:F kb) (hc:w.cell? ⟨kb,0,none⟩=some (.int .i64 i)):
  Script prog link.tWg Wg C 4 (λi F v w=>mY F w v (m i) (rows i)) i F (born prog (wE Wg cb kb ab tb C)) w:=by
 refine q66 (qy:=λi F v w=>mY F w v (m i) (rows i)) (cl:=cl) (dp:=.pointer (some ⟨db i,0,none⟩)) (s:=.string s) (t:=.string t) hi hCW (λF v w w1 h e=>h.ext e.keep) (λF v w h=>?_) ⟨hc,hx.c,hx.f,hx.t,hx.clu.d i hi,hk,hx.Fc,hx.Ff,hx.Ft,hx.Fl⟩ hF λc cs w1 e=>?_
 ·rcases h.2 with⟨rfl,_⟩|⟨g,cap,cur,rfl,_⟩
  ·exact⟨none,0,0,rfl⟩
  ·exact⟨_,_,_,rfl⟩
 ·have Dc:=hx.ext e;have eG:db i≠mb i:=λe=>by
   have h1:=Dc.clu.b i hi;rw[e,Dc.clu.m i hi]at h1;cases h1
  exact q00 (R:=λv w=>mY (λ_=>True) w v (m i) (rows i)) (qy:=λF v w=>mY F w v (m i) (rows i)) (hF.ext e) (hx.Fd i hi) (hx.Fm i hi) eG (Dc.clu.b i hi) (Dc.clu.m i hi) (iO i hi) (uT i hi) (λv w τ h=>h.ext λ_ _=>rfl) (λρ v v' w w' h1 h2 h3=>q6t h1 h2 h3)
   (λF F' v w h k=>⟨h.1,h.2.imp id λ⟨g,cap,cur,h1,h2,h3⟩=>⟨g,cap,cur,h1,k g h2,h3⟩⟩) c cs
end
noncomputable def P0:Code:=match tO with|.seq a _=>a|_=>.skip
noncomputable def P1:Code:=match tO with|.seq _ (.seq a _)=>a|_=>.skip
noncomputable def P3:Code:=match tO with|.seq _ (.seq _ (.seq a _))=>a|_=>.skip
theorem q1m:tO=.seq P0 (.seq P1 (.seq P3 (.seq (.region 4 R4 false) yH))):=rfl
noncomputable def R5:Array Oper:=match yH with|.seq (.seq a _) _=>rg a|_=>#[]
theorem XO:yH=.seq (.seq (.region 5 R5 false) (.block 0 (.loop sL))) sR:=rfl
theorem okP0:codeOk XG.P XG.P fb true P0=true:=by kernel_rfl
theorem okP1:codeOk XG.P XG.P fb true P1=true:=by kernel_rfl
theorem okP3:codeOk XG.P XG.P fb true P3=true:=by kernel_rfl
def S0 (cl:Nat) (s t:ByteArray) (most:Int) (n:Nat) (gF Pb O9:ag):Array ag:=
 #[.pointer (some ⟨cl,0,none⟩),.string s,.string t,.int .i64 most,.pointer (some ⟨n,0,none⟩),.pointer (some ⟨n+1,0,none⟩),.pointer (some ⟨n+1+1,0,none⟩),ac,.slice none 0 0,.int .i64 0,gF,ac,ac,ac,ac,ac,Pb,O9,ac,ac,ac,ac,ac,ac,ac,ac,ac,ac,ac,ac,ac,ac,ac,ac,ac,ac,ac,ac,ac,ac,ac,ac]
structure HE (h:Array Obj) (w w':ae):Prop where
 heap:w'.heap=h
 os:w'.os=w.os
 output:w'.output=w.output
theorem HE.same {h:Array Obj} {w2:ae} (k:HE h w w1) (s:Same w1 w2):HE h w w2:=⟨s.heap.trans k.heap,s.os.trans k.os,s.output.trans k.output⟩
def H0 (cl:Nat) (s t:ByteArray) (w:ae):Array Obj:=((w.heap.push (.cells #[.pointer (some ⟨cl,0,none⟩)] 28)).push (.cells #[.string s] 9)).push (.cells #[.string t] 9)
def H1 (cl:Nat) (s t:ByteArray) (w:ae):Array Obj:=(H0 cl s t w).push (.cells #[.slice none 0 0,.slice none 0 0,.slice none 0 0,.slice none 0 0] 134)
theorem Kl {t:ByteArray}:(H0 cl s t w).size=w.heap.size+3:=by simp[H0]
theorem q2o {t:ByteArray}:(H1 cl s t w).size=w.heap.size+4:=by simp[H1,Kl]
section
variable {cl:Nat} {s t:ByteArray} {most:Int} {w:ae} {Q:Exit->Act->ae->Prop} {gF Pb O9:ag} {n:Nat}
theorem jeo (h:Q .normal ⟨S0 cl s t most w.heap.size ac ac ac,[]⟩ (((w.alloc (.cells #[.pointer (some ⟨cl,0,none⟩)] 28)).alloc (.cells #[.string s] 9)).alloc (.cells #[.string t] 9))):
  Code.wp prog P0 Q ⟨#[.pointer (some ⟨cl,0,none⟩),.string s,.string t,.int .i64 most,ac,ac,ac,ac,ac,ac,ac,ac,ac,ac,ac,ac,ac,ac,ac,ac,ac,ac,ac,ac,ac,ac,ac,ac,ac,ac,ac,ac,ac,ac,ac,ac,ac,ac,ac,ac,ac,ac],[]⟩ w:=by
 unfold P0 tO;unfold S0 at h;simp only[Tryz.f45,cU];go_wp2;exact h
theorem jep (h0:0<=most) (h:Q .normal ⟨S0 cl s t most n ac (.int .i64 most) (.bool false),[]⟩ w):Code.wp prog P1 Q ⟨S0 cl s t most n ac ac ac,[]⟩ w:=by
 unfold P1 tO;unfold S0 at*;simp only[Tryz.f45,cU];have hd:decide (most<0)=false:=xdf (by omega);clear h0;go_wp2;exact h
theorem jeq (h:Q .normal ⟨S0 cl s t most n (.pointer (some ⟨w.heap.size,0,none⟩)) (.int .i64 most) (.bool false),[]⟩ (w.alloc (.cells #[.slice none 0 0,.slice none 0 0,.slice none 0 0,.slice none 0 0] 134))):
  Code.wp prog P3 Q ⟨S0 cl s t most n ac (.int .i64 most) (.bool false),[]⟩ w:=by
 unfold P3 tO;unfold S0 at*;simp only[Tryz.f45,cU];go_wp2;exact h
end
section
variable {N:Blocks} {kv:List ag} {cl:Nat} {s t:ByteArray} {most:Int} {w:ae} {cs eU:List am} {Z:am->ae->Prop}
theorem XK (h0:0<=most) (h1:most<=9223372036854775807)
  (nx:∀w1,HE (H1 cl s t w) w w1->qp N kv cs (bS.at ⟨S0 cl s t most w.heap.size (.pointer (some ⟨w.heap.size+3,0,none⟩)) (.int .i64 most) (.bool false),[]⟩ (.inRegion R4 [0]::[.code yH])) w1 eU Z):
  qp N kv cs (aw XG.P fS #[.pointer (some ⟨cl,0,none⟩),.string s,.string t,.int .i64 most] .normal) w eU Z:=by
 have he:aw XG.P fS #[.pointer (some ⟨cl,0,none⟩),.string s,.string t,.int .i64 most] .normal=bS.at ⟨#[.pointer (some ⟨cl,0,none⟩),.string s,.string t,.int .i64 most,ac,ac,ac,ac,ac,ac,ac,ac,ac,ac,ac,ac,ac,ac,ac,ac,ac,ac,ac,ac,ac,ac,ac,ac,ac,ac,ac,ac,ac,ac,ac,ac,ac,ac,ac,ac,ac,ac],[]⟩ [.code tO]:=by
  show aw prog fS _ .normal=_;rw[enter_at _ func45 (show Tryz.f45.body=some tO from rfl)];have hn:Tryz.f45.ntmps=42:=rfl;rw[hn];simp only[bk,cL,List.length_nil,aM,Nat.reduceSub,Array.replicate_succ,Array.replicate_zero,List.push_toArray,List.append_toArray,List.nil_append,List.cons_append];rfl
 rw[he,q1m];refine qp.seq ?_;refine qp.code rfl (Q:=λe a w'=>e=.normal/\a=⟨S0 cl s t most w.heap.size ac ac ac,[]⟩/\HE (H0 cl s t w) w w') okP0 (by rintro e a w ⟨rfl,_⟩;trivial) (λe a w wc s h=>⟨h.1,h.2.1,h.2.2.same s⟩) (λwc hs=>?_) ?_
 ·refine jeo ⟨rfl,?_,?_⟩
  ·rw[hs.heap]
  ·refine⟨?_,hs.os,hs.output⟩;show((wc.heap.push _).push _).push _=_;rw[hs.heap];rfl
 rintro _ _ w1 fr ⟨rfl,rfl,A7⟩ rfl;refine qp.seq ?_;refine qp.code rfl (Q:=λe a w'=>e=.normal/\a=⟨S0 cl s t most w.heap.size ac (.int .i64 most) (.bool false),[]⟩/\HE (H0 cl s t w) w w') okP1 (by rintro e a w ⟨rfl,_⟩;trivial) (λe a w wc s h=>⟨h.1,h.2.1,h.2.2.same s⟩) (λwc hs=>?_) ?_
 ·exact jep h0 ⟨rfl,rfl,A7.same hs⟩
 rintro _ _ w2 fr ⟨rfl,rfl,pz⟩ rfl;refine qp.seq ?_;refine qp.code rfl (Q:=λe a w'=>e=.normal/\a=⟨S0 cl s t most w.heap.size (.pointer (some ⟨w.heap.size+3,0,none⟩)) (.int .i64 most) (.bool false),[]⟩/\HE (H1 cl s t w) w w') okP3 (by rintro e a w ⟨rfl,_⟩;trivial) (λe a w wc s h=>⟨h.1,h.2.1,h.2.2.same s⟩) (λwc hs=>?_) ?_
 ·have hz:wc.heap.size=w.heap.size+3:=by rw[hs.heap,pz.heap,Kl]
  refine jeq ⟨rfl,?_,?_⟩
  ·rw[hz]
  ·refine⟨?_,hs.os.trans pz.os,hs.output.trans pz.output⟩;show wc.heap.push _=_;rw[hs.heap,pz.heap];rfl
 rintro _ _ w3 fr ⟨rfl,rfl,EP⟩ rfl;refine qp.seq ?_;refine qp.region ?_;exact nx w3 EP
end
theorem Kn {F:aD->Prop} {ρ:Rel}:∀{l:List ag},(∀x∈l,VR F ρ x x)->jy F ρ l l
 |[],_=>.nil
 |_::_,h=>.cons (h _ (.head _)) (Kn λx hx=>h x (.tail _ hx))
theorem jcl {C:Nat} (hS:¬SB C) (hB:C<B):EvZ SB B ⟨.cell ⟨C,i,none⟩,false,false⟩:=
 P6 (F:=λb=>b=C) (O:=λ_=>False) ⟨rfl,rfl,λh=>by cases h⟩ (λb h=>by rw[h];exact hS) (λb h=>by rw[h];exact hB)
section
variable {SB:Blocks} {Z:am->ae->Prop} {k:List Item} {cs:List am} {ρ0:Rel} {w0:ae} {lv:Nat->ag} {m:Nat->Nat} {rows:Nat->List ag} {most:Nat} {Gb:Blocks} {C:Nat} {T:Array ag}
theorem tAll (FB:T.getD 3 ac=.int .i64 most) (OT:T.getD 10 ac=.pointer (some ⟨C,0,none⟩)) (eY:T.size=42) (hc:∀i,i<4->w0.cell? ⟨C,i,none⟩=some (lv i)) (hC:C<w0.heap.size) (hCS:¬SB C)
  (hw:WR XG ρ0 w0 w0) (nA:NB w0) (Bq:∀b,rng ρ0 b->¬SB b)
  (hG:∀b,Gb b->b<w0.heap.size/\ρ0 b b) (hr:∀i,i<4->mY Gb w0 (lv i) (m i) (rows i)) (zD:∀b,SB b->b<w0.heap.size) (hm:∀i,i<4->m i<=268435456) (Cn:most<=9223372036854775807)
  (hZ:∀T' oh ρ' w',TlS ρ0 w0 SB (jE most m rows 4).1 (jE most m rows 4).2 oh ρ' w'->T'.size=42->T'.getD 8 ac=oh->T'.getD 9 ac=.int .i64 0->∀d,Z {bS.at ⟨T',[]⟩ (.code .ret::k)with mode:=.returning} (w'.at d)):
  BGo cs (bS.at ⟨T,[]⟩ (.code sT::k)) w0 SB Z:=by
 refine BGo.sil jff ?_;have Nc:TH (T.setIfInBounds 13 (.slice none 0 0)) [(13,.slice none 0 0),(10,.pointer (some ⟨C,0,none⟩)),(3,.int .i64 most)]:=
  TH.set (l:=[(10,.pointer (some ⟨C,0,none⟩)),(3,.int .i64 most)]) ⟨eY,λp hp=>by
   rcases aF.1 hp with rfl|hp
   ·exact OT
   ·rcases aF.1 hp with rfl|hp
    ·exact FB
    ·cases hp⟩ _ (by decide) (by simp)
 generalize T.setIfInBounds 13 (.slice none 0 0)=T1 at Nc⊢;obtain⟨o,ho,dZ,hd,hg⟩:∃o,R13[0]?=some o/\o.op=.load 134 (.tmp 10)/\o.dst=some 25/\o.guard=none:=⟨_,rfl,rfl,rfl,rfl⟩
 have dX:aa o (aA R13 (ah T1 []).tmps)=true:=by unfold aa;rw[hg]
 have FH:(ah T1 []).eval (.tmp 10)=.pointer (some ⟨C,0,none⟩):=Nc.2 (10,.pointer (some ⟨C,0,none⟩)) (by simp);have ev:∀d,(ai (ah T1 []).eval o).run prog (w0.at d)=.ok (.value (.agg #[lv 0,lv 1,lv 2,lv 3])) (w0.at d)/\(ai (ah T1 []).eval o).events prog (w0.at d) #[]=#[⟨.cell ⟨C,0,none⟩,false,false⟩,⟨.cell ⟨C,1,none⟩,false,false⟩,⟨.cell ⟨C,2,none⟩,false,false⟩,⟨.cell ⟨C,3,none⟩,false,false⟩]:=λd=>by
  have h0:(w0.at d).cell? ⟨C,0,none⟩=some (lv 0):=hc 0 (by decide);have h1:(w0.at d).cell? ⟨C,1,none⟩=some (lv 1):=hc 1 (by decide);have h2:(w0.at d).cell? ⟨C,2,none⟩=some (lv 2):=hc 2 (by decide);have h3:(w0.at d).cell? ⟨C,3,none⟩=some (lv 3):=hc 3 (by decide);generalize (ah T1 []).eval=e at*;generalize w0.at d=w at*;unfold ai;constructor
  ·simp[go_sem,dZ,FH,h0,h1,h2,h3]
  ·simp[go_sem,dZ,FH,h0,h1,h2,h3]
 refine BGo.one rfl λd=>⟨_,w0.at d,_,bg ho dX (by decide) (ev d).1,jd _,λe he=>?_,?_⟩
 ·have:=br he;rw[(ev d).2]at this;simp at this;rcases this with rfl|rfl|rfl|rfl<;>exact jcl hCS hC
 rw[hd];have Jl:TH (T1.setIfInBounds 25 (.agg #[lv 0,lv 1,lv 2,lv 3])) [(25,.agg #[lv 0,lv 1,lv 2,lv 3]),(13,.slice none 0 0),(3,.int .i64 most)]:=Nc.set _ (by decide) (by simp);change BGo cs (bS.at ⟨T1.setIfInBounds 25 (.agg #[lv 0,lv 1,lv 2,lv 3]),[]⟩ (.inRegion R13 [1]::_)) _ _ _;generalize T1.setIfInBounds 25 (.agg #[lv 0,lv 1,lv 2,lv 3])=T2 at Jl⊢;obtain⟨o1,uw,iK,hd1,kI⟩:∃o,R13[1]?=some o/\o.op=.move (.const (.int .i64 0))/\o.dst=some 26/\o.guard=none:=⟨_,rfl,rfl,rfl,rfl⟩
 refine BGo.val Jl (.int .i64 ((0:Nat):Int)) uw hd1 kI (by decide) (l':=[(25,.agg #[lv 0,lv 1,lv 2,lv 3]),(13,.slice none 0 0),(3,.int .i64 most)]) (by simp) (λe he hc w=>?_) λT3 FB=>?_
 ·have bc:=hc (.int .i64 0);unfold ai;constructor
  ·simp[go_sem,iK,bc]
  ·simp[go_sem,iK,bc]
 refine BGo.sil (Sil.ctl (λw1=>au) (Sil.ctl (λw1=>bB) (Sil.ctl (λw1=>stepG_loop) (.refl _ _)))) ?_;have Mx:TlS ρ0 w0 SB (jE most m rows 0).1 (jE most m rows 0).2 (.slice none 0 0) ρ0 (w0.at d):=
  TlS.at ⟨Rel.le_refl ρ0,hw,.jq _ _,nA,World.ownsRow_nil _ _ _ _,λ_ _=>rfl,jd _,Bq,rfl,rfl⟩ d
 refine jfd (fs:=#[lv 0,lv 1,lv 2,lv 3]) (lv:=lv) (λi hi=>?_) hG hr zD hm Cn (λT' oh ρ' w' h' tF=>?_) 4 0 rfl T3 _ ρ0 _ Mx (FB.sub (by simp))
 ·match i,hi with
  |0,_=>rfl
  |1,_=>rfl
  |2,_=>rfl
  |3,_=>rfl
 ·refine BGo.sil (tEnd tF.1 (tF.2 (13,oh) (by simp))) (BGo.done λd=>?_);refine hZ _ oh ρ' w' h' (by simp[tF.1]) ?_ ?_ d
  ·rw[qw (by decide)];exact zm (by simp[tF.1])
  ·exact zm (by simp[tF.1])
end
theorem q1c {T:Array ag}:(results Tryz.f45 T).runT prog w #[]=(.ok (.tuple #[T.getD 8 ac,T.getD 9 ac]) w,#[]):=by
 have e:Tryz.f45.results=#[.tmp 8,.tmp 9]:=rfl;simp[results,e,go_sem]
section
variable {N:Blocks} {kv:List ag} {cl:Nat} {db mb:Nat->Nat} {es:Nat->Array bu} {ck:Nat->Nat} {s t:ByteArray} {m:Nat->Nat} {rows:Nat->List ag} {w:ae} {most:Nat}
theorem Ep {Fp:aD->Prop} {T:Array ag} {b o:Nat} (h:jy Fp ρ T.toList T.toList) (e:T.getD j ac=.pointer (some ⟨b,o,none⟩)):ρ b b:=by
 have:=jy.Ck h j;rw[e]at this;cases this with
 |ptr h=>exact h
theorem Za (II:o6 cl db mb es ck w) (iO:∀i,i<4->∀(F:aD->Prop) ρ,EsR F ρ (es i).toList (es i).toList)
  (uT:∀i,i<4->∀wl,wl.heap[db i]?=some (.cells #[.map (some (mb i))] 130 (0,1))->wl.heap[mb i]?=some (.map (es i) (ck i))->bU prog 53 #[.pointer (some ⟨db i,0,none⟩),.string s,.string t] wl fun|.returned v,w'=>mY (λ_=>True) w' v (m i) (rows i)|_,_=>False)
  (hm:∀i,i<4->m i<=268435456) (Cn:most<=9223372036854775807) (hN:∀b,N b->b<w.heap.size):
  wI N kv fS #[.pointer (some ⟨cl,0,none⟩),.string s,.string t,.int .i64 most] w λv w'=>
   ∃ov,v=.tuple #[ov,.int .i64 0]/\w'.ownsRow w.heap.size 62 2 ov (jE most m rows 4).1 (jE most m rows 4).2/\(∀b,b<w.heap.size->w'.heap[b]?=w.heap[b]?)/\w.heap.size<=w'.heap.size/\w'.os=w.os/\w'.output=w.output:=by
 intro c cs;refine XK (most:=(most:Int)) (by omega) (by omega) λw3 EP=>?_;intro wc hs gs sl t0 SB ρ' q OL hNS hK0;have gN:=OL.diag;have hK:∀v∈kv,VR XG.F (dg ρ') v v:=λv hv=>(hK0 v hv).right;have Vd:∀a b,dg ρ' a b->a=b:=λa b h=>h.1;generalize dg ρ'=ρ at gN Vd hK;have Di:wc.heap=H1 cl s t w:=hs.heap.trans EP.heap;have Ms:wc.heap.size=w.heap.size+4:=by rw[Di,q2o]
 have old:∀b,b<w.heap.size->wc.heap[b]?=w.heap[b]?:=λb hb=>by
  rw[Di];unfold H1 H0;rw[aj,if_neg (by simp;omega),aj,if_neg (by simp;omega),aj,if_neg (by simp;omega),aj,if_neg (by omega)]
 have IU:o6 cl db mb es ck wc:=II.old old;have hcb:wc.heap[w.heap.size]?=some (.cells #[.pointer (some ⟨cl,0,none⟩)] 28):=by
  rw[Di];unfold H1 H0;rw[aj,if_neg (by simp;omega),aj,if_neg (by simp;omega),aj,if_neg (by simp),aj,if_pos rfl]
 have gJ:wc.heap[w.heap.size+1]?=some (.cells #[.string s] 9):=by
  rw[Di];unfold H1 H0;rw[aj,if_neg (by simp),aj,if_neg (by simp),aj,if_pos (by simp)]
 have htb:wc.heap[w.heap.size+1+1]?=some (.cells #[.string t] 9):=by
  rw[Di];unfold H1 H0;rw[aj,if_neg (by simp),aj,if_pos (by simp)]
 have hCb:wc.heap[w.heap.size+3]?=some (.cells #[.slice none 0 0,.slice none 0 0,.slice none 0 0,.slice none 0 0] 134):=by
  rw[Di];unfold H1;rw[aj,if_pos (by rw[Kl])]
 -- what is reached
 have tm:jy XG.F ρ (S0 cl s t most w.heap.size (.pointer (some ⟨w.heap.size+3,0,none⟩)) (.int .i64 most) (.bool false)).toList (S0 cl s t most w.heap.size (.pointer (some ⟨w.heap.size+3,0,none⟩)) (.int .i64 most) (.bool false)).toList:=(gN.fr rfl).tmps;have Ps:ρ cl cl:=Ep (j:=0) tm rfl;have WA:ρ w.heap.size w.heap.size:=Ep (j:=4) tm rfl;have WB:ρ (w.heap.size+1) (w.heap.size+1):=Ep (j:=5) tm rfl;have Wx:ρ (w.heap.size+1+1) (w.heap.size+1+1):=Ep (j:=6) tm rfl;have rC:ρ (w.heap.size+3) (w.heap.size+3):=Ep (j:=10) tm rfl;have Pq:∀i,i<4->ρ (db i) (db i):=λi hi=>by
  obtain⟨v',h1,h2⟩:=gN.wr.cell (a:=⟨cl,1+i*3+1,none⟩) (a':=⟨cl,1+i*3+1,none⟩) ⟨Ps,rfl,rfl⟩ (IU.d i hi);rw[IU.d i hi]at h1;cases h1;cases h2 with|ptr h=>exact h
 have Wy:∀i,i<4->ρ (mb i) (mb i):=λi hi=>by
  have iR:wc.cell? ⟨db i,0,none⟩=some (.map (some (mb i))):=by simp[aH,IU.b i hi]
  obtain⟨v',h1,h2⟩:=gN.wr.cell (a:=⟨db i,0,none⟩) (a':=⟨db i,0,none⟩) ⟨Pq i hi,rfl,rfl⟩ iR;rw[iR]at h1;cases h1;cases h2 with|map h=>exact h
 have Cc:∀b,rng ρ b->b<wc.heap.size:=λb ⟨a,h⟩=>(gN.wr.bound h).2
 -- the group
 obtain⟨lq,d1,iX,t1,q1,h1,z1,g1,L1,p1,Vk,uX⟩:=Zq (SB:=SB) (sl:=sl) gN.g0 gN.leavers gN.past;rw[Ms]at Vk uX
 -- to the O6 head
 let Ta:Array ag:=(S0 cl s t most w.heap.size (.pointer (some ⟨w.heap.size+3,0,none⟩)) (.int .i64 most) (.bool false)).setIfInBounds 11 (.pointer (some ⟨w.heap.size+4,0,none⟩))
 have g1:lq[0]?=some (G (bS.at ⟨Ta,[]⟩ (.inRegion R4 []::[.code yH])) (c::cs)):=by rw[Ms]at g1;exact g1
 let w4:ae:=vD (wc.at d1)
 have IC:∀b,b<wc.heap.size->w4.heap[b]?=wc.heap[b]?:=λb hb=>by
  show(wc.heap.push _)[b]?=_;rw[aj,if_neg (by omega)]
 have hz4:w4.heap.size=w.heap.size+5:=by
  show(wc.heap.push _).size=_;rw[Array.size_push,Ms]
 have hz4':(vD (wc.at d1)).heap.size=w.heap.size+5:=hz4
 let F:Blocks:=λb=>rng ρ b/\b≠w.heap.size+3
 have wB:FOk F (λ_=>False) w4:=⟨λb hb=>by have:=Cc b hb.1;omega,λ_ h=>h.elim⟩
 have eB:=II.ltc;have JK:∀{b:Nat} {v:ag} {ty:cG},b<wc.heap.size->wc.heap[b]?=some (.cells #[v] ty)->w4.cell? ⟨b,0,none⟩=some v:=λ{b v ty} hb e=>by
  simp[aH,IC b hb,e]
 have Nj:FxS cl db mb es ck w.heap.size (w.heap.size+1) (w.heap.size+1+1) s t F w4:=
  ⟨IU.old IC,JK (by omega) hcb,JK (by omega) gJ,JK (by omega) htb,⟨⟨_,WA⟩,by omega⟩,⟨⟨_,WB⟩,by omega⟩,⟨⟨_,Wx⟩,by omega⟩,⟨⟨_,Ps⟩,by omega⟩,λi hi=>⟨⟨_,Pq i hi⟩,by have:=II.ltd i hi;omega⟩,λi hi=>⟨⟨_,Wy i hi⟩,by have:=II.ltm i hi;omega⟩⟩
 have hnW:¬F (w.heap.size+4):=λh=>by have:=Cc _ h.1;omega
 have hH:ScH (.int .i64 most) w.heap.size (w.heap.size+1) (w.heap.size+1+1) (w.heap.size+3) (w.heap.size+4) 0 (Ta.setIfInBounds 18 (.int .i64 ((0:Nat):Int))):=⟨rfl,rfl,rfl,rfl,rfl,rfl,rfl,rfl⟩
 have Fy:WG prog true (Scr prog link.tWg (w.heap.size+4) (w.heap.size+3) 4 (λi F v w=>mY F w v (m i) (rows i)) (KS (.int .i64 most) w.heap.size (w.heap.size+1) (w.heap.size+1+1) (w.heap.size+3) (w.heap.size+4) [] (c::cs)) 4) F (λ_=>False) (G (bS.at ⟨Ta,[]⟩ (.inRegion R4 []::[.code yH])) (c::cs)) w4:=by
  refine WG.ctl rfl wB (λw1=>au) ?_;rw[XO];refine WG.ctl rfl wB (λw1=>aE) ?_;refine WG.ctl rfl wB (λw1=>aE) ?_;refine WG.ctl rfl wB (λw1=>aC) ?_;change WG _ _ _ _ _ (G (bS.at ⟨Ta,[]⟩ (.inRegion R5 [0]::_)) (c::cs)) w4;obtain⟨o,ho,dZ,hd,hg⟩:∃o,R5[0]?=some o/\o.op=.move (.const (.int .i64 0))/\o.dst=some 18/\o.guard=none:=⟨_,rfl,rfl,rfl,rfl⟩
  have dX:aa o (aA R5 (ah Ta []).tmps)=true:=by unfold aa;rw[hg]
  refine WG.value (.int .i64 ((0:Nat):Int)) wB ho dX (by decide) (λw1 _=>?_) ?_
  ·have bc:(ah Ta []).eval (.const (.int .i64 0))=.int .i64 0:=rfl;generalize (ah Ta []).eval=e at*;unfold ai;constructor
   ·simp[go_sem,dZ,bc]
   ·simp[go_sem,dZ,bc]
  rw[hd];change WG _ _ _ _ _ (G (bS.at ⟨Ta.setIfInBounds 18 (.int .i64 ((0:Nat):Int)),[]⟩ (.inRegion R5 []::_)) (c::cs)) w4;refine WG.ctl rfl wB (λw1=>au) ?_;refine WG.ctl rfl wB (λw1=>bB) ?_;refine WG.ctl rfl wB (λw1=>stepG_loop) ?_;exact starter (Fx:=FxS cl db mb es ck w.heap.size (w.heap.size+1) (w.heap.size+1+1) s t) (λF w w1 h e=>h.ext e) (λF F' w h k=>h.sub k)
   (λi hi F w kb hx hF hk hc=>Zb (m:=m) (rows:=rows) (by omega) iO uT i hi F w kb hx hF hk hc) (λF O w T hT hF _ _=>je7 hT hF) 4 0 rfl _ F (λ_=>False) w4 hH wB Nj hnW (by omega)
 have lG:PayAt (w.heap.size+3) 4 w4:=⟨_,(IC _ (by omega)).trans hCb,rfl⟩
 have Cq:=gN.foot;obtain⟨N3,gs3,a3,w5,Pm,t3,D,FM,q3,h3,hJ⟩:=phase (P:=prog) (ty:=link.tWg) (Wg:=w.heap.size+4) (C:=w.heap.size+3) (n:=4) (SB:=SB) (qy:=λi F v w=>mY F w v (m i) (rows i)) (L0:=w.heap.size+3) (sl:=iX) (λi F v w w1 h e=>h.ext e.keep) (by decide) g1 L1 p1 uX Fy Vk lG
  (λb hb=>⟨by have:=Cc b hb.1;omega,by have:=Cc b hb.1;omega,hb.2,Cq.apart b hb.1⟩) (λ_ h=>h.elim) (by omega) (by omega) (λb hb=>by have:=Cq.low b hb;omega) (by omega) (λh=>by have:=Cq.low _ h;omega) (λh=>Cq.apart _ ⟨_,rC⟩ h) (by omega) (jd _) (λ_ h=>h.elim)
 obtain⟨N4,Vv,T,d4,Pk,t4,q4,h4,z4,g4,hT,L4,p4⟩:=Zn (sl:=Pm) hJ
 -- the tail
 let w6:ae:=w5.at d4
 have JH:∀b,b<w.heap.size+3->w6.heap[b]?=wc.heap[b]?:=λb hb=>(hJ.kept.keep b hb).trans (IC b (by omega))
 let Gb:Blocks:=λb=>∃i n cap,i<4/\(D i).val=.slice (some ⟨b,0,none⟩) n cap
 let ρ0:Rel:=λa b=>ρ a b\/(a=b/\Gb b)
 have UO:ρ.le ρ0:=λ_ _ h=>.inl h;have DL:∀a b,ρ0 a b->a=b:=λa b h=>h.elim (Vd a b) (·.1);have mD:∀i,i<4->mY Gb w6 (D i).val (m i) (rows i):=λi hi=>by
  have h:=(hJ.res i hi).1;refine⟨h.1,h.2.imp id ?_⟩;rintro⟨g,cap,cur,k1,k2,k3⟩;exact⟨g,cap,cur,k1,⟨i,_,_,hi,k1⟩,k3⟩
 have Ni:∀b,Gb b->∃cur,w6.heap[b]?=some (.cells cur 62 (0,0))/\(∀x∈cur.toList,∃s,x=.string s)/\b<w6.heap.size/\b≠w.heap.size+4/\¬SB b:=by
  rintro b ⟨i,n,cap,hi,e⟩;have h:=(hJ.res i hi).1;rcases h.2 with⟨e2,_⟩|⟨g,cap2,cur,e2,k2,k3,_,_,_,k6⟩
  ·rw[e]at e2;cases e2
  ·rw[e]at e2;cases e2;have:=hJ.sep.wF i hi b k2;exact⟨cur,k3,k6,this.1,this.2.1,this.2.2.2⟩
 have iR:∀i,i<4->w6.cell? ⟨w.heap.size+3,i,none⟩=some (D i).val:=λi hi=>(hJ.res i hi).2;obtain⟨pc,ES,ML⟩:=hJ.pay;have ES:w6.heap[w.heap.size+3]?=some (.cells pc Payload.ety):=ES;have uP:∀i,i<4->VR XG.F ρ0 (D i).val (D i).val:=λi hi=>by
  rcases(mD i hi).2 with⟨e,_⟩|⟨g,cap,cur,e,k1,_⟩
  ·rw[e];exact .jq _ _
  ·rw[e];exact .slice (.inr ⟨rfl,k1⟩)
 have uq:WR XG ρ0 w6 w6:=by
  refine⟨λh1 h2=>(DL _ _ h1).symm.trans (DL _ _ h2),λh1 h2=>(DL _ _ h1).trans (DL _ _ h2).symm,λ{a b} gJ=>?_,λ_ _=>rfl,λa h=>h.elim⟩;obtain rfl:=DL a b gJ;rcases gJ with gJ|⟨_,hb⟩
  ·by_cases e:a=w.heap.size+3
   ·subst e;refine⟨_,_,ES,ES,.cells (Kn λx hx=>?_) (.inl rfl)⟩;obtain⟨j,hj,e⟩:=List.mem_iff_getElem.1 hx;have xG:j<4:=by simpa[ML]using hj
    have:=iR j xG;simp only[aH,ES]at this;have kX:pc[j]?=some x:=by rw[<-e];simp
    rw[kX]at this;cases this;exact uP j xG
   ·obtain⟨o,o',k1,k2,k3⟩:=gN.wr.heap gJ;have FT:a<w.heap.size+3:=by have:=Cc a ⟨_,gJ⟩;omega
    exact⟨o,o',(JH a FT).trans k1,(JH a FT).trans k2,k3.mono UO⟩
  ·obtain⟨cur,k1,k2,_⟩:=Ni a hb;refine⟨_,_,k1,k1,.cells (Kn λx hx=>?_) (.inl rfl)⟩;obtain⟨s,rfl⟩:=k2 x hx;exact .string s
 have hz6:w.heap.size+5<=w6.heap.size:=by
  have:=hJ.sep.lW;show _<=w5.heap.size;omega
 have Ou:NB w4:=NB.push (w:=wc.at d1) (λ_ _ e=>by cases e) gN.nb;have Bq:∀b,rng ρ0 b->¬(SB b\/b=w.heap.size+4):=by
  rintro b ⟨a,gJ|⟨_,hb⟩⟩ hs
  ·rcases hs with hs|hs
   ·exact Cq.apart b ⟨a,gJ⟩ hs
   ·have:=Cc b ⟨a,gJ⟩;omega
  ·obtain⟨_,_,_,_,k1,k2⟩:=Ni b hb;rcases hs with hs|hs
   ·exact k2 hs
   ·exact k1 hs
 have zD:∀b,(SB b\/b=w.heap.size+4)->b<w6.heap.size:=by
  rintro b (hb|hb)
  ·have:=Cq.low b hb;omega
  ·omega
 have OO:=tAll (SB:=λb=>SB b\/b=w.heap.size+4) (k:=[]) (cs:=c::cs) (ρ0:=ρ0) (w0:=w6) (lv:=λi=>(D i).val) (m:=m) (rows:=rows) (most:=most) (Gb:=Gb) (C:=w.heap.size+3) (T:=T.setIfInBounds 24 (.tuple #[]))
  (Z:=λfr w7=>∃ov ρ7,TlS ρ0 w6 (λb=>SB b\/b=w.heap.size+4) (jE most m rows 4).1 (jE most m rows 4).2 ov ρ7 w7/\Leaves fr (.tuple #[ov,.int .i64 0]))
  ((qw (by decide)).trans hT.t3) ((qw (by decide)).trans hT.t10) (by simp[hT.size]) iR (by omega) (λh=>Bq _ ⟨_,.inl rC⟩ h) uq (hJ.kept.nb Ou) Bq (λb hb=>⟨(let⟨_,_,_,k,_⟩:=Ni b hb;k),.inr ⟨rfl,hb⟩⟩) mD zD hm Cn
  (λT' oh ρ7 w7 h7 hs7 h8 h9 d=>⟨oh,ρ7,h7.at d,⟨rfl,rfl,rfl,_,func45,λw=>by
   have:=q1c (w:=w) (T:=T');rw[h8,h9]at this
   exact this⟩⟩)
 obtain⟨gs7,fr7,w7,Wu,t7,q7,h7,z7,⟨ov,ρ7,uJ,nC⟩,g7,L7,p7⟩:=OO d4 Vv Pk t4 q4 g4 L4 p4;have Oh:Sil prog fr7 (c::cs) (c.finish (.tuple #[ov,.int .i64 0])) cs:=.step (λw=>Tj nC) (.refl _ _);obtain⟨gs8,d8,Wt,t8,q8,h8,z8,g8,L8,p8⟩:=Oh.runs (sl:=Wu) g7 L7 p7;have hle:ρ.le ρ7:=Rel.le_trans UO uJ.le;have UE:=uJ.at d8;refine⟨gs8,_,w7.at d8,Wt,t8,_,ρ7,q8,?_,⟨_,rfl,ov,rfl,?_,λb hb=>?_,?_⟩,⟨g8,L8,p8,⟨uJ.apart,λb hb=>xll (zD b hb) uJ.size,λb ⟨a,h,_⟩=>⟨a,h⟩,λb ⟨a,h⟩=>(UE.wr.bound h).2⟩,?_,λc' nT hb=>(gN.cs c' (.tail _ nT) hb).mono hle,UE.wr,uJ.nb⟩,λb hb hs=>hs.elim (hNS b hb) λe=>by have:=hN b hb;omega,λv hv=>(hK v hv).mono hle⟩
 ·exact(h1.trans ⟨N3,h3⟩).trans ((show Runs prog gs3 w5 Pm t3 Vv (w5.at d4) Pk t4 from⟨N4,h4⟩).trans (h7.trans h8))
 ·have:=uJ.own;refine⟨this.1,this.2.imp id ?_⟩;rintro⟨g,cap,cur,k1,k2,k3⟩;exact⟨g,cap,cur,k1,by omega,k3⟩
 ·exact(uJ.keep b (by omega)).trans ((JH b (by omega)).trans (old b hb))
 ·refine⟨?_,(uJ.os.trans hJ.kept.os).trans (hs.os.trans EP.os),(uJ.output.trans hJ.kept.output).trans (hs.output.trans EP.output)⟩;have:=uJ.size;show _<=w7.heap.size;omega
 ·intro hb;exact FSt.finish ((gN.cs c (.head _) (by rw[<-Frame.RJ c];exact hb)).mono hle) (.tuple (.cons uJ.vr (.cons (.int _ _) .nil)))
end
end
section
open Go Go.Conc Go.ConcN Sim
theorem Y8 {v:ag} (h:Leaves fr v) (hi:XG.P.inits.idxOf? fr.fn=none):aW XG.P true (G fr []) w=.ended (.done v) w #[]:=by
 obtain⟨hm,hd,hk,fn,hf,hr⟩:=h;rw[zx _ _ _ _ _ hm];obtain⟨Dv,Gd,TL,Ej,D7,D9,Pp⟩:=fr;obtain rfl:Ej=[]:=hd;obtain rfl:D7=.returning:=hm;obtain rfl:D9=.normal:=hk;have hf:XG.P.funcs[Dv]?=some fn:=hf;have hi:XG.P.inits.idxOf? Dv=none:=hi;have hr:(results fn Gd).runT XG.P w #[]=(.ok v w,#[]):=hr w;unfold unwind;dsimp only;rw[hf];dsimp only;rw[hr];simp[doReturn,hi,GStep.after,seen]
theorem X5 (W:ae):yo (λ_=>False) W 1 #[]:=
 ⟨⟨0,λsaid=>by rintro⟨i,j,_,⟨a,b,ha,_⟩,_⟩;simp[Trace.act?]at ha,λi a ha=>by simp[touchAt,Trace.act?]at ha,λi g hg=>by simp[Trace.g?]at hg,rfl,by simp⟩,by simp,λi a ha=>by simp[touchAt,Trace.act?]at ha,
  λi op x hi=>by simp at hi,by simp⟩
theorem q3p {W:ae} {Post:ag->ae->Prop} {N:Blocks} {kv:List ag} (h:qp N kv [] fr W [] (Ret f R)) (jJ:FSb ρ fr) (uq:WR XG ρ W W) (kZ:∀v∈kv,VR XG.F ρ v v) (hi:XG.P.inits.idxOf? f=none) (hp:∀v w wc,Same w wc->R v w->Post v wc):
  ∃M last o w' t',runNT XG.P (M+1) (solo (G fr []) W) #[]=(.ended o w',t')/\runN XG.P M (solo (G fr []) W)=.next last/\step XG.P last=.ended o w'/\Conc.Good XG.P Post last o w' t':=by
 have gN:Co XG fb blG (λ_=>False) ρ #[G fr []] fr [] W #[] (λ_=>0):=
  ⟨rfl,leavers_one _ _,X5 W,⟨λ_ _ h=>h,λ_ h=>h.elim,λb ⟨a,h,_⟩=>⟨a,h⟩,λb ⟨a,h⟩=>(uq.bound h).2⟩,jJ,(λc hc=>by cases hc),uq,trivial⟩
 obtain⟨eZ,eH,w',sl',t',NF,ρ',q',⟨N,hr⟩,⟨uH,v,hl,hv,hR⟩,hc,_,_⟩:=h W (Same.refl _) _ none _ _ _ _ gN (λ_ _ h=>h) kZ;obtain⟨B,hP⟩:=hc.past.past;obtain⟨N2,last,o,w2,t2,k1,k2,k3,k4⟩:=beside_ends (P:=XG.P) (D:=λ_ _ _=>False) (Post:=Post) (n:=0) (w:=w') (sl:=sl') (λ_ _ _ h=>h.elim) hc.g0 hc.leavers hP (λw1 A7=>by
  obtain⟨d,e⟩:=A7;subst e
  exact⟨rfl,v,#[],Y8 hl (by rw[uH];exact hi),by simp,hp v _ _ (Same.at w' d) hR⟩)
 have eT:runNT XG.P (N+(N2+1)) (solo (G fr []) W) #[]=(.ended o w2,t2):=runNT_trans N hr k1;have e1:runN XG.P N (solo (G fr []) W)=.next (crowd eZ w' sl'):=by
  rw[<-runNT_fst _ _ _ #[]];exact congrArg Prod.fst hr
 refine⟨N+N2,last,o,w2,t2,eT,?_,k3,k4⟩;have:runNT XG.P (N+N2) (solo (G fr []) W) #[]=runNT XG.P N2 (crowd eZ w' sl') t':=runNT_trans N hr rfl;rw[<-runNT_fst _ _ _ #[],this,runNT_fst];exact k2
section
variable {N:Blocks} {kv:List ag} {cs eU:List am} {w:ae} {Z:am->ae->Prop} {b:am} {a:Act} {k:List Item}
end
section
variable {N:Blocks} {kv:List ag} {cs eU:List am} {w:ae} {Z:am->ae->Prop} {b:am} {a:Act} {k:List Item}
end
end
end Ph
section
open Go.RowKit
def letter (b:UInt8):Bool:=decide (97<=b.toNat)&&decide (b.toNat<=122)
def iL (l:List UInt8):Bool:=decide (0<l.length)&&(decide (l.length<=8)&&l.all letter)
def shd (b:Nat):Nat:=if b<=103 then 0 else if b<=109 then 1 else if b<=116 then 2 else 3
def q9 (l:List UInt8):Nat:=shd ((l.headD 0).toNat)
theorem ql4 (s:ByteArray) (k:Nat) (h:k<s.size):(s.data.toList.take (k+1)).all letter=((s.data.toList.take k).all letter&&letter s[k]):=by
 have:s.data.toList.take (k+1)=s.data.toList.take k++[s[k]]:=by
  rw[List.take_succ_eq_append_getElem (by simpa using h)];rfl
 rw[this,List.all_append];simp
def LV (w:ae) (e:dC) (w':ae):Prop:=e=.returned (.tuple #[.int .i64 0,.bool false])/\bC w.heap.size w w'
def jb0 (k:Nat) (w:ae) (e:dC) (w':ae):Prop:=e=.returned (.tuple #[.int .i64 k,.bool true])/\bC w.heap.size w w'
theorem toList_nil (h:s.size=0):s.toList=[]:=by
 rw[ByteArray.toList_eq];apply az;simpa using h
theorem Ht (h:0<s.size):s.toList.isEmpty=false:=by
 rw[ByteArray.toList_eq];cases e:s.data.toList with
 |nil=>
  have:s.data.toList.length=0:=by rw[e];rfl
  have h2:s.data.toList.length=s.size:=by simp
  omega
 |cons a l=>rfl
theorem q0t (s:ByteArray) (w:ae) (h:s.size=0\/8<s.size) (hs:s.size<=bi):bU prog 51 #[.string s] w (LV w):=by
 unfold bi at hs;rcases h with h|h
 ·have MF:s.toList=[]:=toList_nil h;have iC:s.toList.isEmpty=true:=by rw[MF];rfl
  go_enter func51,ntmps51;go_wp2;go_ret2;exact⟨rfl,j5 _ _⟩
 ·have iC:s.toList.isEmpty=false:=Ht (by omega);have lU:decide ((8:Int)<s.size)=true:=by simp;omega
  go_enter func51,ntmps51;go_wp2;go_ret2;exact⟨rfl,j5 _ _⟩
theorem Y4 (b:UInt8):letter b=true↔97<=b.toNat/\b.toNat<=122:=by simp[letter]
theorem Ee (s:ByteArray) (w:ae) (h:iL s.data.toList=true):bU prog 51 #[.string s] w (jb0 (q9 s.data.toList) w):=by
 simp only[iL,aS,decide_eq_true_eq,bD,Y4]at h;obtain⟨h0,h8,hl⟩:=h;have h0:0<s.size:=by simpa using h0
 have h8:s.size<=8:=by simpa using h8
 have iC:s.toList.isEmpty=false:=Ht h0;have lU:decide ((8:Int)<s.size)=false:=by simp;omega
 have HL:=Hd hl;clear hl;go_enter func51,ntmps51;go_wp2;go_loopw [5] (λ_ w'=>∃pos,pos<=s.size/\w'=w.iter s pos) (λ_ w'=>s.size-w'.iterPos w.heap.size);case atStart=>exact⟨0,xzl _,rfl⟩
 case round=>
  obtain⟨pos,hle,rfl⟩:=hrel;by_cases hp:pos<s.size
  ·have eB:=HL.o s[pos] (by simp[bh]);have ha:(s[pos]'hp).toNat<128:=by omega
   have g1:decide (((s[pos]'hp).toNat:Int)<97)=false:=by simp;omega
   have g2:decide ((122:Int)<((s[pos]'hp).toNat:Int))=false:=by simp;omega
   have pK:∀ty,(Instr.next (.pointer (some ⟨w.heap.size,0,none⟩)) true ty).run prog (w.iter s pos)=_:=λty=>run_next_ascii w s pos ty hp ha;go_wp2;go_roundw;case rel=>exact⟨pos+1,by omega,rfl⟩
   case measure=>simp;omega
  ·have pK:∀ty,(Instr.next (.pointer (some ⟨w.heap.size,0,none⟩)) true ty).run prog (w.iter s pos)=_:=λty=>run_next_end w s pos ty hp;have hh:q9 s.data.toList=shd (s[0]'h0).toNat:=by
    unfold q9;cases e:s.data.toList with
    |nil=>
     have:s.data.toList.length=s.size:=by simp
     rw[e]at this;simp at this;omega
    |cons a l=>
     have:s[0]=a:=by
      have h1:s[0]=s.data.toList[0]'(by simpa using h0):=by simp[bh]
      rw[h1];simp[e]
     rw[this];rfl
   have HH:=Hd hh;clear hh;have he:bC w.heap.size w (w.iter s pos):=(j5 _ _).alloc (jd _) _;go_wp2;all_goals
    go_ret2;refine⟨?_,he⟩;rw[HH.o];unfold shd
   ·rw[if_pos (by omega)];rfl
   ·rw[if_neg (by omega),if_pos (by omega)];rfl
   ·rw[if_neg (by omega),if_neg (by omega),if_pos (by omega)];rfl
   ·rw[if_neg (by omega),if_neg (by omega),if_neg (by omega)];rfl
theorem q9u (s:ByteArray) (w:ae) (h0:0<s.size) (h8:s.size<=8) (hl:¬s.data.toList.all letter=true):bU prog 51 #[.string s] w (LV w):=by
 have iC:s.toList.isEmpty=false:=Ht h0;have lU:decide ((8:Int)<s.size)=false:=by simp;omega
 have HL:=Hd hl;clear hl;go_enter func51,ntmps51;go_wp2;go_loopw [5] (λ_ w'=>∃pos,pos<=s.size/\w'=w.iter s pos/\(s.data.toList.take pos).all letter=true) (λ_ w'=>s.size-w'.iterPos w.heap.size);case atStart=>exact⟨0,xzl _,rfl,by simp⟩
 case round=>
  obtain⟨pos,hle,rfl,fF⟩:=hrel;have HA:=Hd fF;clear fF;by_cases hp:pos<s.size
  ·have he:bC w.heap.size w (w.iter s (pos+(Utf8.decode s pos).2)):=(j5 _ _).alloc (jd _) _;by_cases ha:(s[pos]'hp).toNat<128
   ·have pK:∀ty,(Instr.next (.pointer (some ⟨w.heap.size,0,none⟩)) true ty).run prog (w.iter s pos)=_:=λty=>run_next_ascii w s pos ty hp ha;have he:bC w.heap.size w (w.iter s (pos+1)):=(j5 _ _).alloc (jd _) _;by_cases h1:(s[pos]'hp).toNat<97
    ·have g1:decide (((s[pos]'hp).toNat:Int)<97)=true:=by simp;omega
     go_wp2;go_ret2;exact⟨rfl,he⟩
    ·have g1:decide (((s[pos]'hp).toNat:Int)<97)=false:=by simp;omega
     by_cases h2:122<(s[pos]'hp).toNat
     ·have g2:decide ((122:Int)<((s[pos]'hp).toNat:Int))=true:=by simp;omega
      go_wp2;go_ret2;exact⟨rfl,he⟩
     ·have g2:decide ((122:Int)<((s[pos]'hp).toNat:Int))=false:=by simp;omega
      have eB:letter s[pos]=true:=by simp[letter];omega
      have hn:(s.data.toList.take (pos+1)).all letter=true:=by rw[ql4 s pos hp,HA.o,eB];rfl
      have HN:=Hd hn;clear hn eB;go_wp2;go_roundw;case rel=>exact⟨pos+1,by omega,rfl,HN.o⟩
      case measure=>simp;omega
   ·have hdh:=decode_high s pos hp (by omega);have pK:∀ty,(Instr.next (.pointer (some ⟨w.heap.size,0,none⟩)) true ty).run prog (w.iter s pos)=_:=λty=>run_next_any w s pos ty hp;have g1:decide (((Utf8.decode s pos).1:Int)<97)=false:=by simp;omega
    have g2:decide ((122:Int)<((Utf8.decode s pos).1:Int))=true:=by simp;omega
    go_wp2;go_ret2;exact⟨rfl,he⟩
  ·exact absurd (by have e:=HA.o;rwa [bL (by simp;omega)]at e) HL.o
theorem L9 (s:ByteArray) (w:ae) (h:iL s.data.toList=false) (hs:s.size<=bi):bU prog 51 #[.string s] w (LV w):=by
 by_cases h0:s.size=0\/8<s.size
 ·exact q0t s w h0 hs
 ·refine q9u s w (by omega) (by omega) λhl=>?_;have:iL s.data.toList=true:=by
   simp only[iL,aS,decide_eq_true_eq];exact⟨by simp;omega,by simp;omega,hl⟩
  rw[h]at this;cases this
end
section
open Go.RowKit Go.Maps
abbrev Bs:=List UInt8
abbrev KV:=List (Bs×Bs)
def sv (l:Bs):ag:=.string ⟨l.toArray⟩
def Rv:ag->Option (DataW Unit×List MemPlace)
 |.agg cs=>match cs.toList with
  |[.string s]=>some (.agg [.lit (.string s.data.toList)],[])
  |_=>none
 |_=>none
def ev (v:Bs):DataW Unit:=.agg [.lit (.string v)]
def DM (L:KV):DataW Unit:=.map (L.map λp=>(.string p.1,ev p.2))
def jh (w:ae) (mb:Nat) (L:KV):Prop:=w.ownsMap prog 9 Rv mb L.length (DM L)
theorem Qe {v:ag} {b:Bs} {ps:List MemPlace} (h:Rv v=some (ev b,ps)):v=.agg #[sv b]:=by
 cases v with
 |agg cs=>
  obtain⟨l⟩:=cs;simp only[Rv]at h;split at h
  ·rename_i s;simp only[Option.some.injEq,Prod.mk.injEq,ev]at h;obtain⟨h1,_⟩:=h;injection h1 with h1;injection h1 with h1 _;injection h1 with h1;injection h1 with h1;subst h1;rfl
  ·cases h
 |_=>cases h
def qz (L:KV) (k:Bs):Option Bs:=(L.find? (λp=>p.1==k)).map (·.2)
theorem q3i (L:KV) (k:Bs):(L.map λp=>((aQ p.1:Lit),ev p.2)).find? (λp=>p.1.sameKey (.string k))=(L.find? (λp=>p.1==k)).map λp=>(.string p.1,ev p.2):=by
 induction L with
 |nil=>rfl
 |cons p L ih=>
  rw[aY,bN,bN,ih];have:((aQ p.1).sameKey (.string k))=(p.1==k):=rfl;rw[this];cases p.1==k<;>rfl
theorem Ru (L:KV) (k:Bs) (z:DataW Unit):(DM L).atKey (.string k) z=match qz L k with|some v=>ev v|none=>z:=by
 unfold DM DataW.atKey qz;dsimp only;rw[q3i];cases L.find? (λp=>p.1==k)<;>rfl
theorem q9b (L:KV) (k:Bs):Maps.has (DM L) (.string k)=(qz L k).isSome:=by
 unfold DM qz;rw[Maps.has_eq,Option.isSome_map,List.any_map];induction L with
 |nil=>rfl
 |cons p L ih=>
  rw[List.any_cons,bN,ih];have e:((λp:Lit×DataW Unit=>p.1.sameKey (.string k))∘λp:Bs×Bs=>((aQ p.1:Lit),ev p.2)) p=(p.1==k):=rfl;rw[e];cases p.1==k<;>rfl
theorem Gv (L:KV):Maps.size (DM L)=L.length:=by simp[DM,Maps.size]
theorem jh.of {mb:Nat} {L:KV} (h:w.ownsMap prog 9 Rv mb n (DM L)):jh w mb L:=by
 obtain⟨es,clock,hb,F,hs,hD⟩:=h;refine⟨es,clock,hb,F,?_,hD⟩;have h1:Maps.size (DM L)=es.size:=by rw[hD];simp[Maps.size,length_sorted]
 rw[Gv]at h1;omega
theorem jh.block {mb:Nat} {L:KV} (h:jh w mb L) (k:w'.heap[mb]?=w.heap[mb]?):jh w' mb L:=by
 obtain⟨es,clock,hb,F⟩:=h;exact⟨es,clock,k.trans hb,F⟩
theorem Qf (w:ae):(zeroValue 163).run prog w=.ok (.agg #[.string ⟨#[]⟩]) w:=by kernel_rfl
theorem Gs (s:ByteArray) (hs:s.size<=bi):keyOf prog 9 (.string s)=some (.string s.data.toList):=WideMaps.keyOf_string_mk underlying9 hs
section
variable {w:ae} {db mb:Nat} {L:KV}
theorem jeg (hd:w.cell? ⟨db,0,none⟩=some (.map (some mb))) (hm:jh w mb L):bU prog 88 #[.pointer (some ⟨db,0,none⟩)] w λe w'=>e=.returned (.int .i64 L.length)/\w'=w:=by
 have fE:=hm;have hlen:=λty=>fE.len underlying128 ty;rw[Gv]at hlen;clear fE hm;go_enter func88,ntmps88;go_wp2;go_ret;exact⟨rfl,rfl⟩
theorem q3o (hm:jh w mb L) (s:ByteArray) (hs:s.size<=bi):(Instr.lookup 128 (.map (some mb)) (.string s) true).run prog w=.ok (.tuple #[.agg #[sv ((qz L s.data.toList).getD [])],.bool (qz L s.data.toList).isSome]) w:=by
 have fE:=hm;obtain⟨v,ps,eT,hv⟩:=fE.look_ok (string_keyed underlying9) underlying128 (Qf w) (zd:=ev []) (zp:=[]) rfl (Gs s hs);rw[q9b]at eT;rw[Ru]at hv;have:Rv v=some (ev ((qz L s.data.toList).getD []),ps):=by
  rw[hv];cases qz L s.data.toList<;>rfl
 rw[eT,Qe this]
def QK (w:ae) (x:Option Bs) (e:dC) (w':ae):Prop:=e=.returned (.tuple #[sv (x.getD []),.bool x.isSome])/\bC w.heap.size w w'
theorem JM (hd:w.cell? ⟨db,0,none⟩=some (.map (some mb))) (hm:jh w mb L) (s:ByteArray) (hs:s.size<=bi):bU prog 52 #[.pointer (some ⟨db,0,none⟩),.string s] w (QK w (qz L s.data.toList)):=by
 have hg:=q3o hm s hs;clear hm;unfold QK;generalize qz L s.data.toList=x at*;unfold sv at*;generalize (⟨(x.getD []).toArray⟩:ByteArray)=bs at*;go_enter func52,ntmps52;go_wp2;go_ret2;exact⟨rfl,(j5 _ _).alloc (jd _) _⟩
end
structure But (B:Nat->Prop) (w w':ae):Prop where
 size:w.heap.size<=w'.heap.size
 keep:∀k,k<w.heap.size->¬B k->w'.heap[k]?=w.heap[k]?
 os:w'.os=w.os
 output:w'.output=w.output
theorem But.refl (B:Nat->Prop) (w:ae):But B w w:=⟨jd _,λ_ _ _=>rfl,rfl,rfl⟩
theorem But.trans {B:Nat->Prop} {b c:ae} (h:But B a b) (k:But B b c):But B a c:=
 ⟨xlt h.size k.size,λi hi hb=>(k.keep i (xll hi h.size) hb).trans (h.keep i hi hb),k.os.trans h.os,k.output.trans h.output⟩
theorem But.mono {B B':Nat->Prop} (h:But B w w') (k:∀b,B b->B' b):But B' w w':=⟨h.size,λi hi hb=>h.keep i hi λx=>hb (k i x),h.os,h.output⟩
theorem But.drew {B:Nat->Prop} (h:But B w w'):But B w w'.drew:=⟨h.size,h.keep,h.os,h.output⟩
theorem But.of_below {B:Nat->Prop} (h:bC w.heap.size w w'):But B w w':=⟨h.size,λi hi _=>h.block i hi,h.os,h.output⟩
def ins (k v:Bs):KV->KV
 |[]=>[(k,v)]
 |p::L=>if ao k p.1 then(k,v)::p::L else p::ins k v L
def kG (L:KV) (k v:Bs):KV:=ins k v (L.filter λp=>!(p.1==k))
def xu (L:KV) (k:Bs):KV:=L.filter λp=>!(p.1==k)
theorem RO (L:KV) (k:Bs):((L.map λp=>((aQ p.1:Lit),ev p.2)).filter λp=>!p.1.sameKey (.string k))=(xu L k).map λp=>(.string p.1,ev p.2):=by
 induction L with
 |nil=>rfl
 |cons p L ih=>
  have e:((aQ p.1).sameKey (.string k))=(p.1==k):=rfl;rw[aY,cN,ih];unfold xu;rw[cN];rw[e];cases p.1==k<;>rfl
theorem q8y (L:KV) (k:Bs):(DM L).del (.string k)=DM (xu L k):=by
 unfold DM DataW.del;dsimp only;rw[RO]
theorem Yh (L:KV) (k v:Bs):DataW.insert ((aQ k:Lit),ev v) (L.map λp=>((aQ p.1:Lit),ev p.2))=(ins k v L).map λp=>(.string p.1,ev p.2):=by
 induction L with
 |nil=>rfl
 |cons p L ih=>
  rw[aY];unfold DataW.insert ins;have e:((aQ k).before (aQ p.1))=ao k p.1:=rfl;rw[e];cases ao k p.1
  ·simp[ih]
  ·rfl
theorem q96 (L:KV) (k v:Bs):(DM L).put (.string k) (ev v)=DM (kG L k v):=by
 unfold DM DataW.put;dsimp only;rw[RO,Yh];rfl
section
variable {w:ae} {db mb:Nat} {L:KV}
theorem q49 (hm:jh w mb L) (hL:L.length<1073741823) (k v:ByteArray) (hk:k.size<=bi):
  ∃w',(Instr.mapUpdate 128 (.map (some mb)) (.string k) (.agg #[.string v])).run prog w=.ok () w'/\jh w' mb (kG L k.data.toList v.data.toList)/\But (· =mb) w w':=by
 have h1:Rv (.agg #[.string v])=some (ev v.data.toList,[]):=rfl;obtain⟨w',eT,ho,hg⟩:=World.ownsMap.update hm (string_keyed underlying9) underlying128 (by unfold bi;omega) (Gs k hk) h1;rw[q96]at ho;exact⟨w',eT,.of ho,⟨hg.size,λi hi hb=>hg.block i hi (by simpa using hb),hg.os,hg.output⟩⟩
theorem q3a (hm:jh w mb L) (k:ByteArray) (hk:k.size<=bi) (ty:cG):
  ∃w',(Builtin.delete_ #[128,9] ty #[.map (some mb),.string k]).run prog w=.ok (.tuple #[]) w'/\jh w' mb (xu L k.data.toList)/\But (· =mb) w w':=by
 obtain⟨w',eT,ho,⟨es,ck,gY,ck',hb,rfl⟩⟩:=World.ownsMap.drop hm (string_keyed underlying9) underlying128 (Gs k hk) ty;rw[q8y]at ho;exact⟨_,eT,.of ho,⟨by simp[ChangeMaps.setBlock],λi hi hn=>ChangeMaps.heap_setBlock_other hb _ hn,rfl,rfl⟩⟩
def J7 (w:ae) (mb:Nat) (L:KV) (e:dC) (w':ae):Prop:=e=.returned (.tuple #[])/\jh w' mb L/\But (· =mb) w w'
theorem Ef (hd:w.cell? ⟨db,0,none⟩=some (.map (some mb))) (hm:jh w mb L) (hL:L.length<1073741823) (k v:ByteArray) (hk:k.size<=bi):
  bU prog 67 #[.pointer (some ⟨db,0,none⟩),.agg #[.string k,.string v,.bool false]] w (J7 w mb (kG L k.data.toList v.data.toList)):=by
 go_enter func67,ntmps67;go_wp2;have eB:db<w.heap.size:=xbl w ⟨db,0,none⟩ hd;have c0:(w.alloc (.cells #[.string k,.string v,.bool false] 109)).cell? ⟨w.heap.size,0,none⟩=some (.string k):=by go_simp
 have c1:(w.alloc (.cells #[.string k,.string v,.bool false] 109)).cell? ⟨w.heap.size,1,none⟩=some (.string v):=by go_simp
 have cd:(w.alloc (.cells #[.string k,.string v,.bool false] 109)).cell? ⟨db,0,none⟩=some (.map (some mb)):=(xcb (aR w _ eB)).trans hd;have hB:But (· =mb) w (w.alloc (.cells #[.string k,.string v,.bool false] 109)):=.of_below ((j5 _ _).alloc (jd _) _);have LK:=hm.lt;have nR:jh (w.alloc (.cells #[.string k,.string v,.bool false] 109)) mb L:=hm.block (aR w _ LK);generalize w.alloc (.cells #[.string k,.string v,.bool false] 109)=W at*;obtain⟨w2,eT,Dk,Nl⟩:=q49 (w:=W.drew) (nR.block rfl) hL k v hk;refine bY 11 (by kernel_rfl) (by kernel_rfl) ?_;change wpStill _ _ W.drew (λa'=>wpList _ _ _ _ a' W.drew) _ _;simp only[aI,dh,aJ,di];repeat still_step
 refine wpStill_nil ?_;go_wp2;go_end0;exact⟨rfl,Dk,hB.drew.trans Nl⟩
theorem JZ (hd:w.cell? ⟨db,0,none⟩=some (.map (some mb))) (hm:jh w mb L) (k v:ByteArray) (hk:k.size<=bi):
  bU prog 67 #[.pointer (some ⟨db,0,none⟩),.agg #[.string k,.string v,.bool true]] w (J7 w mb (xu L k.data.toList)):=by
 go_enter func67,ntmps67;go_wp2;have eB:db<w.heap.size:=xbl w ⟨db,0,none⟩ hd;have c0:(w.alloc (.cells #[.string k,.string v,.bool true] 109)).cell? ⟨w.heap.size,0,none⟩=some (.string k):=by go_simp
 have cd:(w.alloc (.cells #[.string k,.string v,.bool true] 109)).cell? ⟨db,0,none⟩=some (.map (some mb)):=(xcb (aR w _ eB)).trans hd;have hB:But (· =mb) w (w.alloc (.cells #[.string k,.string v,.bool true] 109)):=.of_below ((j5 _ _).alloc (jd _) _);have LK:=hm.lt;have nR:jh (w.alloc (.cells #[.string k,.string v,.bool true] 109)) mb L:=hm.block (aR w _ LK);generalize w.alloc (.cells #[.string k,.string v,.bool true] 109)=W at*;obtain⟨w2,eT,Dk,Nl⟩:=q3a (w:=W.drew) (nR.block rfl) k hk 0;refine bY 7 (by kernel_rfl) (by kernel_rfl) ?_;change wpStill _ _ W.drew (λa'=>wpList _ _ _ _ a' W.drew) _ _;simp only[aI,dh,aJ,di];repeat still_step
 refine wpStill_nil ?_;go_wp2;go_end0;exact⟨rfl,Dk,hB.drew.trans Nl⟩
end
end
section
theorem AJ:∀a:Bs,ao a a=false
 |[]=>rfl
 |x::r=>by simp[ao,AJ r]
theorem GX:∀{a b c:Bs},ao a b=true->ao b c=true->ao a c=true
 |[],[],[],h,_=>h
 |[],_::_,[],_,h=>by simp[ao]at h
 |[],_,_::_,_,_=>rfl
 |_::_,[],_,h,_=>by simp[ao]at h
 |_::_,_::_,[],_,h=>by simp[ao]at h
 |x::r,y::s,z::t,h,k=>by
  simp only[ao,cX,decide_eq_true_eq,aS,beq_iff_eq]at*;rcases h with h|⟨h,h2⟩<;>rcases k with k|⟨k,k2⟩
  ·exact .inl (UInt8.lt_trans h k)
  ·subst k;exact .inl h
  ·subst h;exact .inl k
  ·subst h;subst k;exact .inr ⟨rfl,GX h2 k2⟩
theorem Er:∀a b:Bs,ao a b=true\/a=b\/ao b a=true
 |[],[]=>.inr (.inl rfl)
 |[],_::_=>.inl rfl
 |_::_,[]=>.inr (.inr rfl)
 |x::r,y::s=>by
  simp only[ao,cX,decide_eq_true_eq,aS,beq_iff_eq,List.cons.injEq];rcases bo (UInt8.le_refl x)with h|h
  ·exact absurd h (UInt8.lt_irrefl x)
  ·rcases UInt8.le_total x y with h1|h1
   ·rcases bo h1 with h2|h2
    ·exact .inl (.inl h2)
    ·subst h2;rcases Er r s with h3|h3|h3
     ·exact .inl (.inr ⟨rfl,h3⟩)
     ·exact .inr (.inl ⟨rfl,h3⟩)
     ·exact .inr (.inr (.inr ⟨rfl,h3⟩))
   ·rcases bo h1 with h2|h2
    ·exact .inr (.inr (.inl h2))
    ·subst h2;rcases Er r s with h3|h3|h3
     ·exact .inl (.inr ⟨rfl,h3⟩)
     ·exact .inr (.inl ⟨rfl,h3⟩)
     ·exact .inr (.inr (.inr ⟨rfl,h3⟩))
theorem CU {a b:Bs} (h:ao a b=true):ao b a=false:=by
 cases e:ao b a with
 |false=>rfl
 |true=>have:=GX h e;rw[AJ]at this;cases this
theorem D8 {a b:Bs} (h:ao a b=true):(a==b)=false:=by
 rw[beq_eq_false_iff_ne];rintro rfl;rw[AJ]at h;cases h
theorem Ct {a b:Bs} (h:ao a b=true):(b==a)=false:=by
 rw[beq_eq_false_iff_ne];rintro rfl;rw[AJ]at h;cases h
def j4 (L:KV):Prop:=L.Pairwise λa b=>ao a.1 b.1=true
def oV:KV->Bs->Nat
 |[],_=>0
 |p::L,k=>if ao p.1 k then oV L k+1 else 0
def oQ:KV->Bs->Bool
 |[],_=>false
 |p::L,k=>if ao p.1 k then oQ L k else p.1==k
def yI (L:KV) (k v:Bs) (g:Bool):KV:=L.take (oV L k)++(if g then[]else[(k,v)])++L.drop (if oQ L k then oV L k+1 else oV L k)
theorem SQ {L:KV} {k:Bs} (h:∀p∈L,ao k p.1=true):qz L k=none/\xu L k=L:=by
 constructor
 ·unfold qz;rw[Option.map_eq_none_iff,List.find?_eq_none];intro p hp;rw[Ct (h p hp)];simp
 ·unfold xu;rw[List.filter_eq_self];intro p hp;rw[Ct (h p hp)];rfl
theorem Sj {L:KV} {k v:Bs} (h:∀p∈L,ao k p.1=true):ins k v L=(k,v)::L:=by
 cases L with
 |nil=>rfl
 |cons p L=>simp[ins,h p (.head _)]
theorem ql9 {p:Bs×Bs} {L:KV} {k v:Bs} (h:ao p.1 k=true):kG (p::L) k v=p::kG L k v:=by
 simp[kG,D8 h,ins,CU h]
theorem ql8 {p:Bs×Bs} {L:KV} {k:Bs} (h:ao p.1 k=true):xu (p::L) k=p::xu L k:=by
 simp[xu,D8 h]
theorem Tx {p:Bs×Bs} {L:KV} {k:Bs} (h:ao p.1 k=true):qz (p::L) k=qz L k:=by
 simp[qz,D8 h]
theorem Kk:∀{L:KV} (_:j4 L) (k:Bs),oV L k<=L.length/\oQ L k=(qz L k).isSome/\(∀v,qz L k=some v->L[oV L k]?=some (k,v))/\(∀v,yI L k v true=xu L k)/\(∀v,yI L k v false=kG L k v)
 |[],_,k=>⟨jd _,rfl,λv h=>by simp[qz]at h,λv=>rfl,λv=>rfl⟩
 |p::L,hr,k=>by
  obtain⟨hp,hL⟩:=bd.1 hr;obtain⟨i1,i2,i3,i4,i5⟩:=Kk hL k;unfold yI at i4 i5⊢;unfold oV oQ;rcases Er p.1 k with h|h|h
  ·simp only[h,if_true];refine⟨by simp;omega,by rw[Tx h];exact i2,λv hv=>by rw[Tx h]at hv;simpa using i3 v hv,λv=>?_,λv=>?_⟩
   ·rw[ql8 h,<-i4 v];cases oQ L k<;>simp
   ·rw[ql9 h,<-i5 v];cases oQ L k<;>simp
  ·obtain⟨pk,pv⟩:=p;obtain rfl:pk=k:=h;obtain⟨a1,a2⟩:=SQ hp;rw[AJ];simp only[cq,if_false,beq_self_eq_true,if_true];refine⟨xzl _,by simp[qz],λv hv=>by simp[qz]at hv;simp[hv],λv=>?_,λv=>?_⟩
   ·unfold xu at a2⊢;simp[a2]
   ·unfold xu at a2;unfold kG;simp[a2,Sj hp]
  ·have fF:∀q∈p::L,ao k q.1=true:=λq hq=>by
    rcases aF.1 hq with rfl|hq
    ·exact h
    ·exact GX h (hp q hq)
   obtain⟨a1,a2⟩:=SQ fF;simp only[CU h,cq,if_false];refine⟨xzl _,(by rw[a1,Ct h];rfl),λv hv=>(by rw[a1]at hv;cases hv),λv=>(by rw[a2,Ct h];simp),λv=>?_⟩;rw[Ct h];unfold kG;have VS:=a2;unfold xu at VS;rw[VS,Sj fF];simp
theorem Kh {k v:Bs} {q:Bs×Bs}:∀{L:KV},q∈ins k v L->q=(k,v)\/q∈L
 |[],h=>by simp[ins]at h;exact .inl h
 |p::L,h=>by
  unfold ins at h;split at h
  ·rcases aF.1 h with h|h
   ·exact .inl h
   ·exact .inr h
  ·rcases aF.1 h with h|h
   ·exact .inr (h▸.head _)
   ·rcases Kh h with h|h
    ·exact .inl h
    ·exact .inr (.tail _ h)
theorem Sz {k v:Bs}:∀{L:KV},j4 L->(∀p∈L,(p.1==k)=false)->j4 (ins k v L)
 |[],_,_=>by simp[ins,j4]
 |p::L,hr,hn=>by
  obtain⟨hp,hL⟩:=bd.1 hr;unfold ins;split
  ·rename_i h;exact bd.2 ⟨λq hq=>by
    rcases aF.1 hq with rfl|hq
    ·exact h
    ·exact GX h (hp q hq),hr⟩
  ·rename_i h;refine bd.2 ⟨λq hq=>?_,Sz hL λq hq=>hn q (.tail _ hq)⟩;rcases Kh hq with rfl|hq
   ·rcases Er p.1 k with h1|h1|h1
    ·exact h1
    ·have:=hn p (.head _);rw[h1]at this;simp at this
    ·exact absurd h1 h
   ·exact hp q hq
theorem SA {L:KV} (h:j4 L) (k:Bs):j4 (xu L k):=h.filter _
theorem YU {L:KV} (h:j4 L) (k v:Bs):j4 (kG L k v):=Sz (SA h k) λp hp=>by
 have:=(bO.1 hp).2;simpa using this
theorem Lh (k v:Bs):∀L:KV,(ins k v L).length=L.length+1
 |[]=>rfl
 |p::L=>by
  unfold ins;split
  ·rfl
  ·simp[Lh k v L]
theorem P7 (L:KV) (k:Bs):(xu L k).length<=L.length:=List.length_filter_le _ _
theorem JU (L:KV) (k v:Bs):(kG L k v).length<=L.length+1:=by
 unfold kG;rw[Lh];have:=P7 L k;unfold xu at this;omega
theorem q48 {L:KV} {k v:Bs} (h:(qz L k).isSome=true):(kG L k v).length<=L.length:=by
 unfold kG;rw[Lh];have:(L.filter λp=>!(p.1==k)).length<L.length:=by
  unfold qz at h;rw[Option.isSome_map,List.find?_isSome]at h;obtain⟨p,hp,h2⟩:=h;exact List.length_filter_lt_length_iff_exists.2 ⟨p,hp,by simpa using h2⟩
 omega
theorem q4e {L:KV} {k v:Bs} {q:Bs×Bs} (h:q∈kG L k v):q=(k,v)\/q∈L:=by
 rcases Kh h with h|h
 ·exact .inl h
 ·exact .inr (bO.1 h).1
theorem q4d {L:KV} {k:Bs} {q:Bs×Bs} (h:q∈xu L k):q∈L:=(bO.1 h).1
def inB (s t:Bs) (p:Bs×Bs):Bool:=!ao p.1 s&&(t.isEmpty||ao p.1 t)
end
section
open Go.RowKit Go.Maps
def flat (L:KV):List ag:=L.flatMap λp=>[sv p.1,sv p.2]
theorem vH:flat []=[]:=rfl
theorem wN (p:Bs×Bs) (L:KV):flat (p::L)=sv p.1::sv p.2::flat L:=rfl
theorem wR (A B:KV):flat (A++B)=flat A++flat B:=List.flatMap_append
theorem Tc (L:KV):(flat L).length=L.length*2:=by
 induction L with
 |nil=>rfl
 |cons p L ih=>rw[wN];simp only[cL,ih];omega
theorem KQ:∀(L:KV) (k:Nat),(flat L).take (k*2)=flat (L.take k)
 |[],k=>by simp[vH]
 |p::L,0=>by simp[vH]
 |p::L,k+1=>by
  rw[wN,aI,wN,show(k+1)*2=k*2+1+1 by omega,aI,aI,KQ L k]
theorem KR:∀(L:KV) (k:Nat),(flat L).drop (k*2)=flat (L.drop k)
 |[],k=>by simp[vH]
 |p::L,0=>by simp
 |p::L,k+1=>by
  rw[wN,aJ,show(k+1)*2=k*2+1+1 by omega,aJ,aJ,KR L k]
theorem flat_get:∀(L:KV) (k:Nat) (p:Bs×Bs),L[k]?=some p->(flat L)[k*2]?=some (sv p.1)/\(flat L)[k*2+1]?=some (sv p.2)
 |[],k,p,h=>by simp at h
 |q::L,0,p,h=>by simp at h;subst h;exact⟨rfl,rfl⟩
 |q::L,k+1,p,h=>by
  rw[wN,show(k+1)*2=k*2+1+1 by omega];simpa using flat_get L k p (by simpa using h)
theorem WW {L:KV} {x:ag} (h:x∈flat L):∃s,x=.string s:=by
 obtain⟨p,_,h⟩:=List.mem_flatMap.1 h;rcases aF.1 h with rfl|h
 ·exact⟨_,rfl⟩
 ·rcases aF.1 h with rfl|h
  ·exact⟨_,rfl⟩
  ·cases h
def kP (w:ae) (v:ag):Prop:= ∀g,v.ownBlock=some g->∃cur ty,w.heap[g]?=some (.cells cur ty (0,0))/\∀x∈cur.toList,∃s,x=.string s
theorem kP.nil (w:ae):kP w (.slice none 0 0):=λg h=>by cases h
theorem kP.block {v:ag} (h:kP w v) (k:∀g,v.ownBlock=some g->w'.heap[g]?=w.heap[g]?):kP w' v:=λg hg=>
 let⟨cur,ty,h1,h2⟩:=h g hg
 ⟨cur,ty,(k g hg).trans h1,h2⟩
theorem YF:∃i,prog.info? 62=some i/\i.zero=some (.agg #[.string ⟨#[]⟩,.string ⟨#[]⟩])/\i.size=2/\i.bytes=32:=by
 have h:(prog.info? 62).map (λi=>(i.zero,i.size,i.bytes))=some (some (.agg #[.string ⟨#[]⟩,.string ⟨#[]⟩]),2,32):=by kernel_rfl
 obtain⟨i,h1,h2⟩:=aK.1 h;injection h2 with h2 h3;injection h3 with h3 h4;exact⟨i,h1,h2,h3,h4⟩
structure Src (w:ae) (sa:Option Addr) (m:Nat) (news:List ag):Prop where
 len:news.length=m*2
 cell:∀ad,sa=some ad->∀j u,news[j]?=some u->w.cell? (ad.add j)=some u
 zero:sa=none->m=0
 str:∀u∈news,∃s,u=.string s
theorem qma {z:Array ag} {x:ag} (hz:0<z.size) (h:x∈(aO z n).toList):x∈z.toList:=by
 unfold aO at h;simp only[Array.mem_toList_iff]at h⊢;rw[Array.mem_map]at h;obtain⟨i,_,rfl⟩:=h;have:i%z.size<z.size:=Nat.mod_lt _ hz;rw[getElem!_pos z _ this];exact Array.getElem_mem this
section
variable {w:ae} {base n m c:Nat} {v:ag} {xs news:List ag} {sa:Option Addr}
theorem q5k (ty:cG) (fE:w.ownsRow base 62 2 v n xs) (ha:kP w v) (hs:Src w sa m news) (hb:n+m<=1073741824) (mQ:base<=w.heap.size):
  ∃v' w',(aG #[29,29] ty #[v,.slice sa m c]).run prog w=.ok v' w'/\w'.ownsRow base 62 2 v' (n+m) (xs++news)/\kP w' v'/\w.grownBy w' v.ownBlock:=by
 obtain⟨i,hi,hz,eY,zB⟩:=YF;have ht:prog.underlying 29=some (.slice 62):=underlying29;have hlen:(xs++news).length=(n+m)*2:=by rw[cr,fE.1,hs.len,Nat.add_mul]
 have hl:news.length=m*i.size:=by rw[eY];exact hs.len
 have one:∀u∈news,u.oneCell'=true:=λu hu=>by obtain⟨s,rfl⟩:=hs.str u hu;rfl
 have Db:∀x∈xs,∃s,x=.string s:=λx hx=>by
  rcases fE.2 with⟨_,rfl⟩|⟨g,cap,cur,rfl,_,hg,_,_,_,oF⟩
  ·have:xs=[]:=az (by simpa using fE.1);subst this;cases hx
  ·obtain⟨mE,Pg,h1,h2⟩:=ha g rfl;rw[hg]at h1;cases h1;rw[<-oF]at hx;exact h2 x (aP hx)
 have grown:∀(old:Nat),old<n+m->∀(row:Option Nat),
   (w.drew.alloc (.cells (xs.toArray++news.toArray++aO (Value.agg #[.string ⟨#[]⟩,.string ⟨#[]⟩]).cells (grownCap w (n+m) old 62-(n+m))) 62)).ownsRow base 62 2
    (.slice (some ⟨w.heap.size,0,none⟩) (n+m) (grownCap w (n+m) old 62)) (n+m) (xs++news)/\
   kP (w.drew.alloc (.cells (xs.toArray++news.toArray++aO (Value.agg #[.string ⟨#[]⟩,.string ⟨#[]⟩]).cells (grownCap w (n+m) old 62-(n+m))) 62)) (.slice (some ⟨w.heap.size,0,none⟩) (n+m) (grownCap w (n+m) old 62))/\
   w.grownBy (w.drew.alloc (.cells (xs.toArray++news.toArray++aO (Value.agg #[.string ⟨#[]⟩,.string ⟨#[]⟩]).cells (grownCap w (n+m) old 62-(n+m))) 62)) row:=by
  intro old ho row;have mK:=grownCap_ge w (n+m) old 62;have vR:grownCap w (n+m) old 62<=bi:=grownCap_le_maxLen w (n+m) old 62 (by unfold bi;omega);refine⟨⟨hlen,.inr ⟨w.heap.size,_,_,rfl,mQ,heap_alloc_new w.drew _,mK,vR,?_,?_⟩⟩,?_,⟨rfl,rfl,rfl,by simp,λk hk _=>aR w.drew _ hk⟩⟩
  ·have:(Value.agg #[.string ⟨#[]⟩,.string ⟨#[]⟩]).cells.size=2:=rfl;have h1:=fE.1;have h2:=hs.len;rw[Array.size_append,Array.size_append,size_zeroCells,this,bk,bk];omega
  ·simp only[cf,cE];rw[<-cE,<-hlen];exact List.take_left
  ·intro g hg;cases hg;refine⟨_,_,heap_alloc_new w.drew _,λx hx=>?_⟩;simp only[cf,bP]at hx;rcases hx with(hx|hx)|hx
   ·exact Db x hx
   ·exact hs.str x hx
   ·have hx:=qma (by decide) hx;have:x∈[Value.string ⟨#[]⟩,.string ⟨#[]⟩]:=hx;simp at this;exact⟨_,this⟩
 cases vM:sa with
 |none=>
  have hm:=hs.zero vM;subst hm;have hn:news=[]:=az (by simpa using hs.len);subst hn;refine⟨v,w,?_,by simpa using fE,ha,⟨rfl,rfl,rfl,jd _,λ_ _ _=>rfl⟩⟩;rcases fE.2 with⟨rfl,rfl⟩|⟨g,cap,cur,rfl,h1,h2,h3,h4,h5,h6⟩
  ·simp[aG,bj ht,sizeOf,typeInfo,hi,bm,aL,loadCells,loadCellsFrom]
  ·simp[aG,bj ht,sizeOf,typeInfo,hi,bm,aL,loadCells,loadCellsFrom,storeCells,h3]
 |some ad=>
  have jD:=hs.cell ad vM;rcases fE.2 with⟨rfl,rfl⟩|⟨g,cap,cur,rfl,hbg,hg,Dj,vR,gI,oF⟩
  ·have hx:xs=[]:=az (by simpa using fE.1);subst hx;by_cases hm:m=0
   ·subst hm;have hn:news=[]:=az (by simpa using hs.len);subst hn;refine⟨.slice none 0 0,w,?_,by simpa using fE,ha,⟨rfl,rfl,rfl,jd _,λ_ _ _=>rfl⟩⟩;simp[aG,bj ht,sizeOf,typeInfo,hi,bm,aL,loadCells,loadCellsFrom]
   ·have hr:=run_append_nil (P:=prog) w 29 ty 62 i _ ht hi hz ad m c news hl jD (by omega) (by omega) (by rw[zB];omega);have yZ:=grown 0 (by omega) (Value.ownBlock (.slice none 0 0));simp only[cz,List.nil_append,Array.empty_append]at yZ⊢;exact⟨_,_,hr,yZ.1,yZ.2.1,yZ.2.2⟩
  ·by_cases iQ:n+m<=cap
   ·have qE:n*2+news.length<=cur.size:=by rw[hs.len,gI,<-Nat.add_mul];exact bX _ iQ
    have hr:=run_append_room (P:=prog) w 29 ty 62 i ht hi g n cap cur hg ad m c news hl jD one iQ (by rw[eY];exact qE);rw[eY]at hr;have hblk:=setRow_heap w g cur (cur.toList.take (n*2)++news++cur.toList.drop (n*2+news.length)).toArray 62 _ hg;refine⟨_,_,hr,⟨hlen,.inr ⟨g,cap,_,rfl,hbg,hblk,iQ,vR,?_,?_⟩⟩,?_,⟨rfl,rfl,rfl,by simp,λk _ hk=>setRow_other w g k _ (λe=>hk (by simp[Value.ownBlock,e]))⟩⟩
    ·simp only[bk,cr,aV,bI,Array.length_toList];omega
    ·rw[oF,<-hlen];exact List.take_left
    ·intro g' gD;cases gD;refine⟨_,_,hblk,λx hx=>?_⟩;obtain⟨mE,Pg,h1,h2⟩:=ha g rfl;rw[hg]at h1;cases h1;rcases bP.1 hx with hx|hx
     ·rcases bP.1 hx with hx|hx
      ·exact h2 x (aP hx)
      ·exact hs.str x hx
     ·exact h2 x (List.mem_of_mem_drop hx)
   ·have holds:∀j u,xs[j]?=some u->w.cell? ((⟨g,0,none⟩:Addr).add j)=some u:=fE.cells (g:=g) rfl;have hr:=run_append_grow (P:=prog) w 29 ty 62 i _ ht hi hz ⟨g,0,none⟩ n cap xs (by rw[eY];exact fE.1) holds ad m c news hl jD (by omega) (by omega) (growslice_fits (by omega) (by rw[zB];omega));have yZ:=grown cap (by omega) (Value.ownBlock (.slice (some ⟨g,0,none⟩) n cap));exact⟨_,_,hr,yZ.1,yZ.2.1,yZ.2.2⟩
theorem zy {rest:List Oper} {a:Act} (Fe:o.guard=none) (s x:cw)
  (ho:o.op=.call {callee:=.builtin .append,args:=#[s,x],argTypes:=#[29,29]})
  (es:a.eval s=v) (ex:a.eval x=.slice sa m c) (fE:w.ownsRow base 62 2 v n xs) (ha:kP w v) (hs:Src w sa m news) (hb:n+m<=1073741824) (mQ:base<=w.heap.size)
  (h:∀v' w',w'.ownsRow base 62 2 v' (n+m) (xs++news)->kP w' v'->w.grownBy w' v.ownBlock->wpList prog ops Q rest (a.put o.dst v') w'):wpList prog ops Q (o::rest) a w:=
 wpList_plain Fe λ_ hK=>by
  obtain⟨v',w',hr,h2,h3,h4⟩:=q5k (c:=c) o.type fE ha hs hb mQ;unfold Oper.wp ai;simp only[ho,resolve,invoke,builtin,Sem.run_bind,Sem.run_pure,Result.andThen_ok,bH,aY,cx,es,ex,hr];exact hK _ _ (h v' w' h2 h3 h4)
end
theorem Ar:∀a b:Bs,Op.bytesLess a b=ao a b
 |[],[]=>rfl
 |[],_::_=>rfl
 |_::_,[]=>rfl
 |a::x,b::y=>by simp[Op.bytesLess,ao,Ar x y]
theorem QH:∀{L:KV} {k:Bs} (i:Nat) (p:Bs×Bs),(∀(j:Nat) (q:Bs×Bs),j<i->L[j]?=some q->ao q.1 k=true)->L[i]?=some p->ao p.1 k=false->oV L k=i/\oQ L k=(p.1==k)
 |[],_,_,_,_,h,_=>by simp at h
 |q::L,k,0,p,_,h,hp=>by
  simp at h;subst h;unfold oV oQ;simp[hp]
 |q::L,k,i+1,p,hj,h,hp=>by
  have h0:=hj 0 q (by omega) rfl;obtain⟨h1,h2⟩:=QH (L:=L) (k:=k) i p (λj q' Dn hq=>hj (j+1) q' (by omega) (by simpa using hq)) (by simpa using h) hp;unfold oV oQ;rw[if_pos h0,if_pos h0,h1,h2];exact⟨rfl,rfl⟩
theorem at_end:∀{L:KV} {k:Bs},(∀(j:Nat) (q:Bs×Bs),L[j]?=some q->ao q.1 k=true)->oV L k=L.length/\oQ L k=false
 |[],_,_=>⟨rfl,rfl⟩
 |q::L,k,h=>by
  have h0:=h 0 q rfl;obtain⟨h1,h2⟩:=at_end (L:=L) (k:=k) λj q' hq=>h (j+1) q' (by simpa using hq);unfold oV oQ;rw[if_pos h0,if_pos h0,h1,h2];exact⟨rfl,rfl⟩
theorem Below.drewN' (h:bC B a w) (n:Nat):bC B a (w.drewN n):=⟨h.os,h.tape,h.output,h.size,h.block⟩
def Gr (w:ae) (ix:Nat) (has:Bool) (e:dC) (w':ae):Prop:=e=.returned (.tuple #[.int .i64 ix,.bool has])/\bC w.heap.size w w'
section
variable {w:ae} {L:KV}
end
def jH (w:ae) (base:Nat) (v:ag) (L:KV):Prop:=w.ownsRow base 62 2 v L.length (flat L)/\kP w v
section
variable {w:ae} {L:KV}
theorem qI (k:ByteArray):sv k.data.toList=.string k:=by unfold sv;simp
theorem jb {b:ByteArray} {l:Bs} (h:b.data.toList=l):sv l=.string b:=by rw[<-h];exact qI b
theorem kP.alloc {v:ag} (h:kP w v) (o:Obj):kP (w.alloc o) v:=λg hg=>by
 obtain⟨cur,ty,h1,h2⟩:=h g hg;exact⟨cur,ty,(aR w o (kg h1).1).trans h1,h2⟩
theorem Src.one (w:ae) (a b:ByteArray) (ty:cG):Src (w.alloc (.cells #[.string a,.string b] ty)) (some ⟨w.heap.size,0,none⟩) 1 [.string a,.string b]:=by
 refine⟨rfl,λad e j u hj=>?_,λh=>(by cases h),λu hu=>by simp at hu;rcases hu with rfl|rfl<;>exact⟨_,rfl⟩⟩;cases e;rw[Addr.add_lit,cz];match j,hj with
 |0,hj=>simp at hj;subst hj;go_simp
 |1,hj=>simp at hj;subst hj;go_simp
structure CA (cb:Nat) (k x:ByteArray) (g:Bool) (w:ae):Prop where
 c0:w.cell? ⟨cb,0,none⟩=some (.string k)
 c1:w.cell? ⟨cb,1,none⟩=some (.string x)
 c2:w.cell? ⟨cb,2,none⟩=some (.bool g)
theorem yu {v:ag} {base:Nat} (h:bC B a w) (hg:w.grownBy w1 v.ownBlock) (hr:w.ownsRow base 62 2 v n xs) (hb:B<=base) (hs:B<=w.heap.size):bC B a w1:=
 h.grown hg hs λj hj=>by have:=(hr.lt j hj).1;omega
theorem Kc {v:ag} {g cap:Nat} (hr:jH w 0 v L) (hv:v=.slice (some ⟨g,0,none⟩) L.length cap) (hb:bC w.heap.size w w') (i m:Nat) (him:i+m<=L.length):Src w' (some ⟨g,i*2,none⟩) m (flat ((L.drop i).take m)):=by
 subst hv;have h:=hr.1;refine⟨by rw[Tc,aV,bI];omega,λad e j u hj=>?_,λh=>(by cases h),λu hu=>WW hu⟩;cases e;rw[<-KQ,<-KR]at hj;have jO:j<m*2:=by
  have:=(bw.1 hj).1;rw[aV]at this;omega
 rw[aZ jO,List.getElem?_drop]at hj;have hc:=h.cells (g:=g) rfl _ _ hj;rw[Addr.add_lit]at hc⊢;have hc:w.cell? ⟨g,i*2+j,none⟩=some u:=by simpa using hc
 exact(hb.cell (xbl w _ hc)).trans hc
theorem Gx {b:Nat} {v:ag} {L:KV} (h:w.ownsRow b 62 2 v n xs) (ha:kP w v) (hB:B<=b) (e:xs=flat L):jH w B v L:=by
 have hn:n=L.length:=by have:=h.1;rw[e,Tc]at this;omega
 subst hn;subst e;exact⟨⟨h.1,h.2.imp id λ⟨g,cap,cur,h1,h2,h3⟩=>⟨g,cap,cur,h1,xlt hB h2,h3⟩⟩,ha⟩
theorem Kv {g cap:Nat} (h:n<=cap):(if cap=i then(some ⟨g,0,none⟩:Option Addr)else some ⟨g,i*2,none⟩)=some ⟨g,i*2,none⟩\/n-i=0/\∃a,(if cap=i then(some ⟨g,0,none⟩:Option Addr)else some ⟨g,i*2,none⟩)=some a:=by
 by_cases hc:cap=i
 ·rw[if_pos hc];exact .inr ⟨by omega,_,rfl⟩
 ·rw[if_neg hc];exact .inl rfl
theorem J9 {g:Nat} (HS:∀w',bC w.heap.size w w'->∀i m,i+m<=L.length->Src w' (some ⟨g,i*2,none⟩) m (flat ((L.drop i).take m))) (hb:bC w.heap.size w w') (i:Nat) (hle:i<=L.length)
  (vM:sa=some ⟨g,i*2,none⟩\/(L.length-i=0/\∃a,sa=some a)):Src w' sa (L.length-i) (flat (L.drop i)):=by
 rcases vM with rfl|⟨h0,a,rfl⟩
 ·have:=HS w' hb i (L.length-i) (by omega);rwa [bL (by rw[bI];exact jd _)]at this
 ·have hd:L.drop i=[]:=List.drop_eq_nil_of_le (by omega);rw[hd,h0];exact⟨rfl,λad e j u hj=>by simp[vH]at hj,λh=>(by cases h),λu hu=>by simp[vH]at hu⟩
theorem Src.nil {w:ae}:Src w none 0 []:=⟨rfl,λad e j u hj=>by simp at hj,λ_=>rfl,λu hu=>by cases hu⟩
end
end
end Go.Proofs.YtkpekiajdlolnaaGreat
