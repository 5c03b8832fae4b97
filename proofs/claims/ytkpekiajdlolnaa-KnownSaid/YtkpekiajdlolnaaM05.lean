/- PROVED: part 5 of the claim's ground. Conditions: those that each theorem names. -/
import Derived.Test.YtkpekiajdlolnaaM04
import Derived.Deep.RegionLaw
import Derived.Test.YtkpekiajdlolnaaM03
import Derived.Shelf.SlIter.Nil
import Derived.Shelf.SortM.Plain
import Derived.Shelf.SortM.SortNone
import Derived.Ground.GgzProg
import Derived.Ground.SlgmProg
import Derived.Sort.KeysCollected
import Derived.Sort.Walk0
import Derived.Deep.RegionWith
import Derived.Carry
set_option linter.unusedVariables false
set_option linter.unusedSimpArgs false
set_option maxRecDepth 100000
set_option maxHeartbeats 16000000
variable{K:Go.Act->Go.World->Prop} {L X kv:Go.Proofs.Ytkpekiajdlolnaa.KV} {PP:Go.Ending->Go.World->Prop} {Q:Go.Exit->Go.Act->Go.World->Prop} {a:Go.Act} {b rD g h i j k mb n pb r:Nat} {ld:ByteArray} {p:Go.Proofs.Ytkpekiajdlolnaa.Bs×Go.Proofs.Ytkpekiajdlolnaa.Bs} {pv:Go.Value} {t:Array Go.Value} {to:Int} {w w0 w1 w2 w3 wA:Go.World}
open Go.Proofs.Try
open Go.World renaming cell?→aa,frozen?→au,ownsRow_nil→aZ
open Int renaming toNat_natCast→ac,lt_or_le→aL
open Go renaming World→ae,Value→ah,Calls→ao,heap_alloc_old→aw,wp_region_still_tail→az,execOp→aG,getD_set_ne→aH,TypeId→aP,maxLen→aR,undef→aS,DataW→aU,heap_alloc_new→aW,bytesBefore→bi,wpStill_nil→bk,Operand→bw,mem_ready→bJ
open Go.ByteArray renaming toList_eq→ag
open And renaming intro→ai
open List renaming getD_eq_getElem?_getD→aj,length_append→ax,getElem?_eq_some_iff→aB,take_succ_cons→aC,drop_succ_cons→aD,getElem?_eq_getElem→aE,range→aF,getElem?_map→aJ,all_eq_true→aO,eq_nil_of_length_eq_zero→aQ,take_zero→aX,drop_zero→aY,getElem?_eq_none→bh,mem_of_getElem?→bj,getElem_mem→bB,mem_range→bG
open Bool renaming and_eq_true→ak,and_eq_false_iff→aM
open Nat renaming not_lt→al,lt_or_ge→aA,reduceEqDiff→bD
open Go.Obj renaming cells→am
open Go.Code renaming region→aq,wp→bd
open Option renaming isSome_iff_exists→av,getD_some→aN,map_some→bg
open Go.RowKit renaming Below→ay
open Go.Region renaming ready→aI,wanted→ba,binds→bq
open Go.Op renaming bytesLess→aK
open Go.Instr renaming lookup→aT
open Go.RowKit.Below renaming drew→aV
namespace Go.Proofs.Ytkpekiajdlolnaa.Ph
open Go.Conc Go.ConcN Go.RowKit Go.Maps Go.Conc.Lib Go Sim
def waits (ops:Array Oper) (m:Nat):List Bool->Nat->List Bool
 |S,0=>S
 |S,j+1=>waits ops m (if S.getD j false then(match ops[j]? with
  |some o=>S.mapIdx λi b=>b||o.after.toList.any λe=>e.on==i&&bq .any e
  |none=>S)else S) j
def Dc (ops:Array Oper) (n:Nat):Bool:=
 (decide (0<ops.size))&&((aF ops.size).all λj=>match ops[j]? with
  |some o=>o.guard.isNone&&(match o.dst with|some d=>decide (d<n)&&decide (j+1<ops.size)|none=>decide (j+1=ops.size))&&(o.after.all λe=>decide (e.on<j))&&((aF ops.size).all λi=>i==j||(match ops[i]? with|some p=>!(p.dst==o.dst)|none=>true))
  |none=>false)&&((waits ops (ops.size-1) ((aF ops.size).map λi=>i+1==ops.size) ops.size).all id)
section
variable {P:Program} {ops:Array Oper} {n:Nat} {x0:Nat->ah} {KN:Nat->ah->ae->Prop} {turn:Nat} {J:Bool->ae->Prop}
def EY (ops:Array Oper) (listed:Array Bool):Prop:= ∀(j:Nat) o,ops[j]?=some o->listed.getD j false=true->∀e∈o.after,bq .any e=true->listed.getD e.on false=true
theorem KX (ops:Array Oper) (m:Nat) {listed:Array Bool} (hs:EY ops listed):∀(k:Nat) (S:List Bool),(∀i,S.getD i false=true->listed.getD i false=true)->∀i,(waits ops m S k).getD i false=true->listed.getD i false=true
 |0,S,h=>h
 |k+1,S,h=>by
  unfold waits;refine KX ops m hs k _ ?_;intro i hi;split at hi
  ·rename_i hk;have mK:=h k hk;split at hi
   ·rename_i o ho;rw[aj,List.getElem?_mapIdx]at hi;cases hb:S[i]? with
    |none=>rw[hb]at hi;cases hi
    |some b=>
     rw[hb]at hi;simp only[bg,aN,Bool.or_eq_true,List.any_eq_true]at hi;rcases hi with hi|⟨e,he,h2⟩
     ·exact h i (by rw[aj,hb];exact hi)
     ·simp only[ak,beq_iff_eq]at h2;rw[<-h2.1];exact hs k o ho mK e (by simpa using he) h2.2
   ·exact h i hi
  ·exact h i hi
theorem Qy (h:Dc ops n=true) {o:Oper} (ho:ops[j]?=some o):o.guard=none/\(∀e∈o.after,e.on<j)/\(∀i p,ops[i]?=some p->i≠j->p.dst≠o.dst)/\((∃d,o.dst=some d/\d<n/\j+1<ops.size)\/(o.dst=none/\j+1=ops.size)):=by
 unfold Dc at h;simp only[ak]at h;have h:=h.1.2;rw[aO]at h;have hj:j<ops.size:=(yc ho).1;have:=h j (bG.2 hj);rw[ho]at this;simp only[ak,Option.isNone_iff_eq_none]at this;obtain⟨⟨⟨h1,h2⟩,h3⟩,h4⟩:=this;refine⟨h1,λe he=>of_decide_eq_true ((Array.all_eq_true_iff_forall_mem.1 h3) e he),λi p hp eD hd=>?_,?_⟩
 ·rw[aO]at h4;have hi:=(yc hp).1;have:=h4 i (bG.2 hi);rw[hp]at this;simp[eD,hd]at this
 ·cases hd:o.dst with
  |none=>rw[hd]at h2;exact .inr ⟨rfl,of_decide_eq_true h2⟩
  |some d=>rw[hd]at h2;simp only[ak]at h2;exact .inl ⟨d,rfl,of_decide_eq_true h2.1,of_decide_eq_true h2.2⟩
structure RS (ops:Array Oper) (n:Nat) (x0:Nat->ah) (turn:Nat) (J:Bool->ae->Prop) (KN:Nat->ah->ae->Prop) (Q:Exit->Act->ae->Prop) (listed:Array Bool) (a:Act) (w:ae):Prop where
 size:listed.size=ops.size
 shut:EY ops listed
 go:(listed.getD (ops.size-1) true=false/\J (listed.getD turn false) w/\∃x,a=⟨lay n x,[]⟩/\(∀s,(∀(j:Nat) o,ops[j]?=some o->o.dst≠some s)->x s=x0 s)/\∀(j:Nat) o d,listed.getD j false=true->ops[j]?=some o->o.dst=some d->KN j (x d) w)\/(listed.getD (ops.size-1) false=true/\Q .normal a w)
theorem YZ {id:Nat} (hm:P.follows .mixedOrders=true) (hn:Dc ops n=true) (ha:∃x,a=⟨lay n x,[]⟩/\∀s,x s=x0 s) (hw:J false w.drew)
  (step:∀(j:Nat) o d x w (b:Bool),(j=turn->b=false)->ops[j]?=some o->o.dst=some d->(∀s,(∀(j:Nat) o,ops[j]?=some o->o.dst≠some s)->x s=x0 s)->(∀(i:Nat) p e,ops[i]?=some p->p.dst=some e->(∃ed∈o.after,ed.on=i/\bq .any ed=true)->KN i (x e) w)->J b w->
   o.wp P ⟨lay n x,[]⟩ w (λa' w'=>∃v,a'=⟨lay n (upd x d v),[]⟩/\KN j v w'/\J (b||j==turn) w'/\∀i u,i≠j->KN i u w->KN i u w') Q)
  (last:∀(m:Nat) o x w,m+1=ops.size->ops[m]?=some o->(∀s,(∀(j:Nat) o,ops[j]?=some o->o.dst≠some s)->x s=x0 s)->(∀(j:Nat) o d,ops[j]?=some o->o.dst=some d->KN j (x d) w)->J (decide (turn+1<ops.size)) w->o.wp P ⟨lay n x,[]⟩ w (λa' w'=>Q .normal a' w') Q):
  (aq id ops true).wp P Q a w:=by
 refine wp_region_any hm ?_;have jE:0<ops.size:=by
  unfold Dc at hn;simp only[ak,decide_eq_true_eq]at hn;exact hn.1.1
 have JK:((waits ops (ops.size-1) ((aF ops.size).map λi=>i+1==ops.size) ops.size).all (λb=>b))=true:=by
  unfold Dc at hn;simp only[ak]at hn;exact hn.2
 have JL:∀(k:Nat) (S:List Bool),(waits ops (ops.size-1) S k).length=S.length:=by
  intro k;induction k with
  |zero=>intro S;rfl
  |succ k ih=>
   intro S;unfold waits;rw[ih];split
   ·split
    ·simp
    ·rfl
   ·rfl
 -- if none is ready,all are done
 have FD:∀{listed:Array Bool},listed.size=ops.size->aI .any ops listed=[]->∀j,j<ops.size->listed.getD j false=true:=by
  intro listed hs pX j;induction j using Nat.strongRecOn with
  |_ j ih=>
   intro hj;cases hv:listed.getD j false with
   |true=>rfl
   |false=>
    exfalso;obtain⟨o,ho⟩:∃o,ops[j]?=some o:=⟨_,Array.getElem?_eq_getElem hj⟩
    have dW:j<listed.size:=by omega
    have:j∈aI .any ops listed:=bJ.2 ⟨by simp[dW]at hv⊢;exact hv,o,ho,λe he _=>by
     have:=(Qy hn ho).2.1 e he
     exact ih e.on this (by omega)⟩
    rw[pX]at this;cases this
 have main:∀fuel listed a w,left ops.size listed<=fuel->RS ops n x0 turn J KN Q listed a w->wpAny P .any ops Q fuel listed a w:=by
  intro fuel;have fin:∀listed a w,RS ops n x0 turn J KN Q listed a w->aI .any ops listed=[]->Q .normal a w:=by
   rintro listed a w ⟨h1,h2,h3⟩ pX;rcases h3 with⟨h3,_⟩|⟨_,h3⟩
   ·have:=FD h1 pX (ops.size-1) (by omega);have dW:ops.size-1<listed.size:=by omega
    simp[dW]at this h3;rw[this]at h3;cases h3
   ·exact h3
  induction fuel with
  |zero=>
   intro listed a w hl hv;have pX:aI .any ops listed=[]:=by
    cases hq:aI .any ops listed with
    |nil=>rfl
    |cons j r=>
     exfalso;have hj:j∈aI .any ops listed:=by rw[hq];exact .head _
     obtain⟨h1,o,ho,_⟩:=bJ.1 hj;have:=Lc (yc ho).1 h1;omega
   exact⟨pX,fin listed a w hv pX⟩
  |succ fuel ih=>
   intro listed a w hl hv;refine⟨fin listed a w hv,λj hj=>?_⟩;obtain⟨h1,o,ho,h3⟩:=bJ.1 hj;obtain⟨hg,vg,rA,Hl⟩:=Qy hn ho;obtain⟨eT,kE,hgo⟩:=hv;have Cg:j<ops.size:=(yc ho).1
   -- the list is shut behind it,too
   have wu:EY ops (listed.setIfInBounds j true):=by
    intro i p hp hi e he Aq;by_cases e1:i=j
    ·subst e1;rw[ho]at hp;cases hp;have dW:=vg e he;rw[aH false (by omega)];exact h3 e he Aq
    ·rw[aH false (Ne.symm e1)]at hi;have h4:=kE i p hp hi e he Aq;by_cases e2:e.on=j
     ·rw[e2];have:j<listed.size:=by omega
      simp[this]
     ·rw[aH false (Ne.symm e2)];exact h4
   -- were the last one done,all would be
   have G5:listed.getD (ops.size-1) false≠true:=λhT=>by
    have fE:=KX ops (ops.size-1) kE ops.size ((aF ops.size).map λi=>i+1==ops.size) (λi hi=>by
     rw[aj,aJ]at hi;by_cases DZ:i<ops.size
     ·rw[List.getElem?_range DZ]at hi;simp only[bg,aN,beq_iff_eq]at hi;rw[show i=ops.size-1 by omega];exact hT
     ·rw[bh (by simp;omega)]at hi;cases hi) j (by
     rw[aO]at JK;have hlen:j<(waits ops (ops.size-1) ((aF ops.size).map λi=>i+1==ops.size) ops.size).length:=by rw[JL];simp;exact Cg
     rw[aj,aE hlen]
     exact JK _ (bB hlen))
    have dW:j<listed.size:=by omega
    simp[dW]at fE h1;rw[fE]at h1;cases h1
   obtain⟨DV,hR,x,rfl,hx,qU⟩:_:=hgo.resolve_right λh=>G5 h.1;unfold wpOp;rw[ho];simp only[ba,hg,if_true];rcases Hl with⟨d,hd,rT,Ug⟩|⟨hd,Ug⟩
   ·refine .inl (Oper.wp_mono ?_ (step j o d x w (listed.getD turn false) (λe=>?_) ho hd hx (λi p e hp he ⟨ed,Gm,h5,h6⟩=>qU i p e (by rw[<-h5];exact h3 ed Gm h6) hp he) hR));rotate_left
    ·rw[<-e];have dW:j<listed.size:=by omega
     simp[dW]at h1⊢;exact h1
    rintro a' w' ⟨v,rfl,hv,fH,hk⟩;have fH:J ((listed.setIfInBounds j true).getD turn false) w':=by
     by_cases e:j=turn
     ·subst e;have dW:j<listed.size:=by omega
      simp[dW]at fH⊢;exact fH
     ·rw[aH false e];have e2:(j==turn)=false:=by simpa using e
      rw[e2,Bool.or_false]at fH;exact fH
    refine ih _ _ _ (by have:=IL Cg eT h1;omega) ⟨by simpa using eT,wu,.inl ⟨by rw[aH true (by omega)];exact DV,fH,_,rfl,λs hs=>?_,λi p e hi hp he=>?_⟩⟩
    ·unfold upd;rw[if_neg λe=>hs j o ho (by rw[hd,e])];exact hx s hs
    ·by_cases e1:i=j
     ·subst e1;rw[ho]at hp;cases hp;rw[hd]at he;cases he;unfold upd;rw[if_pos rfl];exact hv
     ·have eD:e≠d:=λe2=>rA i p hp e1 (by rw[he,hd,e2]);unfold upd;rw[if_neg eD];rw[aH false (Ne.symm e1)]at hi;exact hk i _ e1 (qU i p e hi hp he)
   ·have fE:∀i,i<ops.size-1->listed.getD i false=true:=by
     intro i hi;have fE:=KX ops (ops.size-1) wu ops.size ((aF ops.size).map λi=>i+1==ops.size) (λi hi=>by
      rw[aj,aJ]at hi;by_cases DZ:i<ops.size
      ·rw[List.getElem?_range DZ]at hi;simp only[bg,aN,beq_iff_eq]at hi;rw[show i=j by omega];have:j<listed.size:=by omega
       simp[this]
      ·rw[bh (by simp;omega)]at hi;cases hi) i (by
      rw[aO]at JK;have hlen:i<(waits ops (ops.size-1) ((aF ops.size).map λi=>i+1==ops.size) ops.size).length:=by rw[JL];simp;omega
      rw[aj,aE hlen]
      exact JK _ (bB hlen))
     rw[aH false (by omega)]at fE;exact fE
    refine .inl (Oper.wp_mono ?_ (last j o x w Ug ho hx (λi p d hp mQ=>qU i p d (fE i ?_) hp mQ) (by
     have:listed.getD turn false=decide (turn+1<ops.size):=by
      by_cases e:turn+1<ops.size
      ·rw[fE turn (by omega)];simp[e]
      ·by_cases e2:turn=ops.size-1
       ·rw[e2];have dW:ops.size-1<listed.size:=by omega
        simp[dW]at DV⊢;rw[DV];simp;omega
       ·simp[e,show¬turn<listed.size by omega]
     rw[<-this];exact hR)))
    ·intro a' w' hq;refine ih _ _ _ (by have:=IL Cg eT h1;omega) ⟨by simpa using eT,wu,.inr ⟨?_,hq⟩⟩;rw[show ops.size-1=j by omega];have:j<listed.size:=by omega
     simp[this]
    ·have hi:=(yc hp).1;rcases aA i (ops.size-1)with h|h
     ·exact h
     ·exfalso;have:i=j:=by omega
      subst this;rw[ho]at hp;cases hp;rw[hd]at mQ;cases mQ
 obtain⟨x,rfl,hx⟩:=ha;have h0f:J ((Array.replicate ops.size false).getD turn false) w.drew:=by
  have:(Array.replicate ops.size false).getD turn false=false:=by
   by_cases h:turn<ops.size<;>simp[h]
  rw[this];exact hw
 refine main _ _ _ _ (xlt (List.countP_le_length) (by simp)) ⟨by simp,λj o ho hj=>?_,.inl ⟨?_,h0f,x,rfl,λs _=>hx s,λj o d hj ho hd=>?_⟩⟩
 ·have:j<ops.size:=(yc ho).1;simp[this]at hj
 ·have:ops.size-1<ops.size:=by omega
  simp[this]
 ·have:j<ops.size:=(yc ho).1;simp[this]at hj
end
section
variable {e:bw->ah} {o:Oper} {p q:bw} {v:ah} {g f k:Nat} {w:ae}
theorem run_move (h:o.op=.move p) (hp:e p=v):(aG e o).run prog w=.ok (.value v) w:=by
 unfold aG;simp[go_sem,h,hp]
theorem II {a:Addr} (h:o.op=.nilCheck p) (hp:e p=.pointer (some a)):(aG e o).run prog w=.ok (.value (.pointer (some a))) w:=by
 unfold aG;simp[go_sem,h,hp]
theorem LU (f:Nat) (hf:f<3) (h:o.op=.fieldAddr 57 p f) (hp:e p=.pointer (some ⟨g,k,none⟩)):(aG e o).run prog w=.ok (.value (.pointer (some ⟨g,k+f,none⟩))) w:=by
 have hu:=underlying57;have Cj:f=0\/f=1\/f=2:=by omega
 have OJ:∀j,(⟨g,k,none⟩:Addr).add j=⟨g,k+j,none⟩:=λj=>Addr.add_lit ..;unfold aG;rcases Cj with rfl|rfl|rfl<;>simp[go_sem,h,hp,hu,OJ]
end
theorem Ig (y:Nat->ah):lay 106 y=#[y 0,y 1,y 2,y 3,y 4,y 5,y 6,y 7,y 8,y 9,y 10,y 11,y 12,y 13,y 14,y 15,y 16,y 17,y 18,y 19,y 20,y 21,y 22,y 23,y 24,y 25,y 26,y 27,y 28,y 29,y 30,y 31,y 32,y 33,y 34,y 35,y 36,y 37,y 38,y 39,y 40,y 41,y 42,y 43,y 44,y 45,y 46,y 47,y 48,y 49,y 50,y 51,y 52,y 53,y 54,y 55,y 56,y 57,y 58,y 59,y 60,y 61,y 62,y 63,y 64,y 65,y 66,y 67,y 68,y 69,y 70,y 71,y 72,y 73,y 74,y 75,y 76,y 77,y 78,y 79,y 80,y 81,y 82,y 83,y 84,y 85,y 86,y 87,y 88,y 89,y 90,y 91,y 92,y 93,y 94,y 95,y 96,y 97,y 98,y 99,y 100,y 101,y 102,y 103,y 104,y 105]:=rfl
def q43:Code->Code
 |.seq _ b=>b
 |c=>c
noncomputable def cg1:Array Oper:=match Try.f22.body with
 |some (.seq _ (.seq _ (.seq _ (.seq _ (.seq _ (.seq _ (.seq _ (.seq (.seq _ (.cond _ a _)) _))))))))=>rg a
 |_=>#[]
theorem jae (h:t.size=n) (g:K ⟨lay n λj=>t.getD j aS,[]⟩ w):K ⟨t,[]⟩ w:=by
 have e:lay n (λj=>t.getD j aS)=t:=by
  apply Array.ext
  ·simp[lay,h]
  ·intro i h1 h2;simp[lay,Array.getD,h2]
 rwa [e]at g
section
variable {cl cb n x:Nat} {pv cv:ah} {ld:ByteArray} {m:Mv} {k v:ByteArray} {g:Bool}
theorem MX.appO {gb off cap H:Nat} {c:Chg} (h:MX x n pv cv ld m w) (o:Obj) (MO:w1=(w.alloc o).drew) (hg:w1.grownBy w3 cv.ownBlock) (hr:jo w3 74 3 (.slice (some ⟨gb,off,none⟩) (m.cs.length+1) cap) (m.cs.length+1) (kD m.cs++[sv c.k,sv c.v,.bool c.g])) (nR:cv.ownBlock=some gb\/gb=H) (hH:w1.heap.size=H):
  w3.cell? ⟨x,4,none⟩=some cv/\w3.frozen? ⟨x,4,none⟩=false/\(MX x n pv (.slice (some ⟨gb,off,none⟩) (m.cs.length+1) cap) ld {m with cs:=m.cs++[c]} (w3.setCell ⟨x,4,none⟩ (.slice (some ⟨gb,off,none⟩) (m.cs.length+1) cap)))/\
   (∀b,(Value.slice (some ⟨gb,off,none⟩) (m.cs.length+1) cap).ownBlock=some b->cv.ownBlock=some b\/w.heap.size<=b)/\But (λq=>q=x\/cv.ownBlock=some q) w (w3.setCell ⟨x,4,none⟩ (.slice (some ⟨gb,off,none⟩) (m.cs.length+1) cap)):=by
 have dW:=h.lt;have hw:But (λ_=>False) w w1:=by
  subst MO;exact⟨by simp,λb hb _=>aw w o hb,rfl,rfl⟩
 have eT:=hw.size;have eD:some x≠cv.ownBlock:=λe=>by
  obtain⟨cc,hc⟩:=jo.ty h.r e.symm;rw[h.b]at hc;cases hc
 have b3:But (λb=>cv.ownBlock=some b) w w3:=⟨by have:=hg.size;omega,λb hb hn=>(hg.block b (by omega) λe=>hn e.symm).trans (hw.keep b hb id),hg.os.trans hw.os,hg.output.trans hw.output⟩
 have gM:=(b3.keep x dW λe=>eD e.symm).trans h.b;have hgx:gb≠x:=λe=>by
  rcases nR with e2|e2
  ·exact eD (by rw[e2,e])
  ·omega
 refine⟨by simp[aa,gM,qf],by simp[au,gM],⟨(xhs w3 x 4 _ _ _ gM).trans rfl,?_⟩,λb hb=>?_,But.setCell (b3.mono λb e=>.inr e) (.inl rfl) 4 _⟩
 ·unfold pJ;rw[show({m with cs:=m.cs++[c]}:Mv).cs=m.cs++[c]from rfl,ax,show kD (m.cs++[c])=kD m.cs++[sv c.k,sv c.v,.bool c.g] by simp[kD]];exact hr.block λb hb=>xho _ _ _ _ λe=>hgx ((xoi hb).trans e)
 ·obtain rfl:=xoi hb;exact nR.imp id λe=>by show w.heap.size<=gb;omega
theorem KH {F:Func} (ht:t.size=106) (h3:t.getD 3 aS=.pointer (some ⟨cb,0,none⟩)) (h7:t.getD 7 aS=.pointer (some ⟨cl,1+n*3,none⟩))
  (hx:MX x n pv cv ld m w) (hv:w.cell? ⟨cl,1+n*3+2,none⟩=some (.pointer (some ⟨x,0,none⟩))) (c0:w.cell? ⟨cb,0,none⟩=some (.string k)) (c1:w.cell? ⟨cb,1,none⟩=some (.string v)) (c2:w.cell? ⟨cb,2,none⟩=some (.bool g)) (lK:cv.ownBlock≠some cl) (gD:m.cs.length<=1073741820)
  (hQ:∀y w' cv',MX x n pv cv' ld {m with cs:=m.cs++[H8 k v g]} w'->(∀b,cv'.ownBlock=some b->cv.ownBlock=some b\/w.heap.size<=b)->But (λq=>q=x\/cv.ownBlock=some q) w w'->K ⟨lay 106 y,[]⟩ w'):(aq 16 cg1 true).wp prog (Exit.then K (bodyPost prog F PP)) ⟨t,[]⟩ w:=by
 have e:lay 106 (λj=>t.getD j aS)=t:=by
  apply Array.ext
  ·simp[lay,ht]
  ·intro i h1 h2;simp[lay,Array.getD,h2]
 rw[<-e];clear e;obtain⟨x3,JJ⟩:∃x3:Nat->ah,(λj=>t.getD j aS)=x3:=⟨_,rfl⟩
 have h3:x3 3=.pointer (some ⟨cb,0,none⟩):=by rw[<-JJ];exact h3
 have h7:x3 7=.pointer (some ⟨cl,1+n*3,none⟩):=by rw[<-JJ];exact h7
 rw[JJ];clear JJ;obtain⟨x3,rfl⟩:=qa h3;obtain⟨x3,rfl⟩:=qa (x:=x3) (j:=7) (v:=.pointer (some ⟨cl,1+n*3,none⟩)) h7;clear h3 h7;have HX:=Hd hx;have HQ:=Hd hQ;have m4:=hx.cells.1;have l1:=hx.lt;have l2:=xbl w _ hv;have l3:=xbl w _ c0;obtain⟨ci,i1,i2,i3,i4⟩:=KU;have HI:=Hd (ai i1 (ai i2 (ai i3 i4)));clear hx hQ i1 i2 i3 i4;rw[Ig];unfold cg1;simp only[Try.f22,Option.getD,rg,q43,upd,bD,if_true,if_false];go_region_law (refine Y0 _ rfl (.tmp 100) (.tmp 102) 62 rfl 74 ci _ 3 40 underlying62 HI.1 HI.2.1 HI.2.2.1 HI.2.2.2 rfl cv m.cs.length (kD m.cs) rfl (HX.r.block λb hb=>aw w _ (jo.lt HX.r hb)) ⟨w.heap.size,0,none⟩ 1 [.string k,.string v,.bool g] rfl rfl (cells3 w _ _ _ _) (by intro u hu;simp at hu;rcases hu with rfl|rfl|rfl<;>rfl) (by unfold aR;omega) (by omega) _ rfl ?_;intro gb off cap w3 hr hg nR;rw[<-wK k,<-wK v]at hr;have H3:=Hd (MX.appO (c:=H8 k v g) HX.o _ rfl hg hr nR rfl);obtain⟨d3,e3,_⟩:=H3.o;have f3:=(xcb (a:=⟨cl,1+n*3+2,none⟩) (w:=w) ((hg.block cl (by simp;exact Nat.lt_succ_of_lt l2) λe=>lK e.symm).trans (aw w _ l2))).trans hv;clear hr hg nR);all_goals exact jae rfl (HQ.o _ _ _ H3.2.2.1 H3.2.2.2.1 H3.2.2.2.2)
end
end Go.Proofs.Ytkpekiajdlolnaa.Ph
namespace Go.Proofs
open Go.RowKit Go.Maps Go.Sort Go.Shelf
def Try.keysOf_ren:Go.Shelf.Ren:=⟨fun|7=>53|10=>78|n=>n,fun|23=>107|26=>9|3=>111|28=>130|0=>0|27=>129|33=>156|4=>4|n=>n,fun|n=>n⟩
theorem Try.keysOf:Go.Proofs.SlLaysZ.n7 prog Try.keysOf_ren:={
 mixed:=by kernel_rfl
 f7:=⟨Try.f53.name,by decide,func53.trans (congrArg some (by kernel_rfl))⟩
 f10:=⟨Try.f78.name,by decide,func78.trans (congrArg some (by kernel_rfl))⟩
 t0:=underlying0
 a0:=Try.isAgg0
 z0:=Try.sizeOf0
 v0:=Try.zeroValue0
 t4:=underlying4
 a4:=Try.isAgg4
 z4:=Try.sizeOf4
 v4:=Try.zeroValue4
 t23:=underlying107
 a23:=Try.isAgg107
 z23:=Try.sizeOf107
 v23:=Try.zeroValue107
 t26:=underlying9
 a26:=Try.isAgg9
 z26:=Try.sizeOf9
 v26:=Try.zeroValue9
 t27:=underlying129
 a27:=Try.isAgg129
 z27:=Try.sizeOf129
 v27:=Try.zeroValue129
 t28:=underlying130
 a28:=Try.isAgg130
 z28:=Try.sizeOf130
 v28:=Try.zeroValue130
 t33:=underlying156
 a33:=Try.isAgg156
 z33:=Try.sizeOf156
 v33:=Try.zeroValue156}
def Try.sortedOf_ren:Go.Shelf.Ren:=⟨fun|6=>52|8=>76|9=>77|11=>83|13=>85|12=>84|23=>95|24=>96|14=>86|15=>87|16=>88|17=>89|18=>90|19=>91|20=>92|21=>93|22=>94|25=>97|26=>98|27=>99|28=>100|29=>101|30=>102|31=>103|n=>n,fun|26=>9|28=>130|24=>35|0=>0|3=>3|37=>122|48=>83|50=>80|4=>4|40=>164|39=>163|45=>68|5=>5|9=>9|51=>172|55=>175|57=>177|58=>178|33=>156|n=>n,fun|n=>n⟩
theorem Try.sortedOf:Go.Proofs.SlLaysZ.n6 prog Try.sortedOf_ren:={
 mixed:=by kernel_rfl
 f6:=⟨Try.f52.name,by decide,func52.trans (congrArg some (by kernel_rfl))⟩
 f8:=⟨Try.f76.name,by decide,func76.trans (congrArg some (by kernel_rfl))⟩
 f11:=⟨Try.f83.name,by decide,func83.trans (congrArg some (by kernel_rfl))⟩
 t0:=underlying0
 a0:=Try.isAgg0
 z0:=Try.sizeOf0
 v0:=Try.zeroValue0
 t24:=underlying35
 a24:=Try.isAgg35
 z24:=Try.sizeOf35
 v24:=Try.zeroValue35
 t26:=underlying9
 a26:=Try.isAgg9
 z26:=Try.sizeOf9
 v26:=Try.zeroValue9
 t28:=underlying130
 a28:=Try.isAgg130
 z28:=Try.sizeOf130
 v28:=Try.zeroValue130
 i26:=by kernel_rfl}
def Try.sortOf_ren:Go.Shelf.Ren:=⟨fun|6=>77|8=>85|9=>84|19=>95|20=>96|21=>86|22=>87|23=>88|24=>89|25=>90|26=>91|27=>92|28=>93|29=>94|36=>97|31=>98|32=>99|37=>100|38=>101|39=>102|41=>103|n=>n,fun|27=>35|29=>9|3=>3|32=>122|26=>35|0=>0|44=>83|46=>80|4=>4|36=>164|35=>163|41=>68|5=>5|9=>9|53=>172|57=>175|63=>177|64=>178|n=>n,fun|n=>n⟩
theorem Try.sortOf:Go.Proofs.SlLaysM.n6 prog Try.sortOf_ren:={
 mixed:=by kernel_rfl
 f6:=⟨Try.f77.name,by decide,func77.trans (congrArg some (by kernel_rfl))⟩
 f8:=func85.trans (congrArg some (by kernel_rfl))
 f9:=⟨Try.f84.name,by decide,func84.trans (congrArg some (by kernel_rfl))⟩
 f19:=func95.trans (congrArg some (by kernel_rfl))
 f20:=func96.trans (congrArg some (by kernel_rfl))
 f21:=⟨Try.f86.name,by decide,func86.trans (congrArg some (by kernel_rfl))⟩
 f22:=⟨Try.f87.name,by decide,func87.trans (congrArg some (by kernel_rfl))⟩
 f23:=⟨Try.f88.name,by decide,func88.trans (congrArg some (by kernel_rfl))⟩
 f24:=⟨Try.f89.name,by decide,func89.trans (congrArg some (by kernel_rfl))⟩
 f25:=⟨Try.f90.name,by decide,func90.trans (congrArg some (by kernel_rfl))⟩
 f26:=⟨Try.f91.name,by decide,func91.trans (congrArg some (by kernel_rfl))⟩
 f27:=⟨Try.f92.name,by decide,func92.trans (congrArg some (by kernel_rfl))⟩
 f28:=⟨Try.f93.name,by decide,func93.trans (congrArg some (by kernel_rfl))⟩
 f29:=⟨Try.f94.name,by decide,func94.trans (congrArg some (by kernel_rfl))⟩
 f31:=func98.trans (congrArg some (by kernel_rfl))
 f32:=func99.trans (congrArg some (by kernel_rfl))
 f36:=⟨Try.f97.name,by decide,func97.trans (congrArg some (by kernel_rfl))⟩
 f37:=⟨Try.f100.name,by decide,func100.trans (congrArg some (by kernel_rfl))⟩
 f38:=⟨Try.f101.name,by decide,func101.trans (congrArg some (by kernel_rfl))⟩
 f39:=⟨Try.f102.name,by decide,func102.trans (congrArg some (by kernel_rfl))⟩
 f41:=⟨Try.f103.name,by decide,func103.trans (congrArg some (by kernel_rfl))⟩
 t0:=underlying0
 a0:=Try.isAgg0
 z0:=Try.sizeOf0
 v0:=Try.zeroValue0
 t3:=underlying3
 a3:=Try.isAgg3
 z3:=Try.sizeOf3
 v3:=Try.zeroValue3
 t4:=underlying4
 a4:=Try.isAgg4
 z4:=Try.sizeOf4
 v4:=Try.zeroValue4
 t5:=underlying5
 a5:=Try.isAgg5
 z5:=Try.sizeOf5
 v5:=Try.zeroValue5
 t9:=underlying9
 a9:=Try.isAgg9
 z9:=Try.sizeOf9
 v9:=Try.zeroValue9
 t26:=underlying35
 a26:=Try.isAgg35
 z26:=Try.sizeOf35
 v26:=Try.zeroValue35
 t27:=underlying35
 a27:=Try.isAgg35
 z27:=Try.sizeOf35
 v27:=Try.zeroValue35
 t29:=underlying9
 a29:=Try.isAgg9
 z29:=Try.sizeOf9
 v29:=Try.zeroValue9
 t32:=underlying122
 a32:=Try.isAgg122
 z32:=Try.sizeOf122
 v32:=Try.zeroValue122
 t35:=underlying163
 a35:=Try.isAgg163
 z35:=Try.sizeOf163
 v35:=Try.zeroValue163
 t36:=underlying164
 a36:=Try.isAgg164
 z36:=Try.sizeOf164
 v36:=Try.zeroValue164
 t41:=underlying68
 a41:=Try.isAgg68
 z41:=Try.sizeOf68
 v41:=Try.zeroValue68
 t44:=underlying83
 a44:=Try.isAgg83
 z44:=Try.sizeOf83
 v44:=Try.zeroValue83
 t46:=underlying80
 a46:=Try.isAgg80
 z46:=Try.sizeOf80
 v46:=Try.zeroValue80
 t53:=underlying172
 a53:=Try.isAgg172
 z53:=Try.sizeOf172
 v53:=Try.zeroValue172
 t57:=underlying175
 a57:=Try.isAgg175
 z57:=Try.sizeOf175
 v57:=Try.zeroValue175
 t63:=underlying177
 a63:=Try.isAgg177
 z63:=Try.sizeOf177
 v63:=Try.zeroValue177
 t64:=underlying178
 a64:=Try.isAgg178
 z64:=Try.sizeOf178
 v64:=Try.zeroValue178}
theorem Try.sorts_of (m:Nat):AnyZ.SortsIn prog Try.sortedOf_ren Fence.wide m:=
 ⟨λblk off cap ss W hH hblk eT=>callsIn_wide.2 (AnyM.slices_Sort_string Try.sortOf blk off cap ss W hH hblk eT),
  λp cap W=>callsIn_wide.2 (AnyM.slices_Sort_string_none Try.sortOf p cap W)⟩
theorem Try.maps_keys (mb:Option Nat) (W:ae):ao prog 53 #[.map mb] W λe w'=>e=.returned (.func (.func 78) #[] #[.pointer (some ⟨W.heap.size,0,none⟩)])/\w'=W.alloc (.cells #[.map mb] 107):=
 callsIn_wide.1 (AnyZ.keys_in Try.keysOf Fence.wide 5 trivial rfl mb W)
theorem Try.slices_sorted {H:Type} (b nn:Nat) (D0:aU H) (R:ah->Option (aU H×List MemPlace)) (w:ae) (fe:w.ownsMap prog 9 R b nn D0) (Oq:Maps.size D0<=aR) (iX:Maps.size D0*16<=140737488355328):
  ao prog 52 #[.func (.func 78) #[] #[.pointer (some ⟨w.heap.size,0,none⟩)]] (w.alloc (.cells #[.map (some b)] 107)) λe w'=>∃(v:ah) (ss:List (List UInt8)),e=.returned v/\ss.Perm (strKeys D0)/\
   w'.ownsRow (w.alloc (.cells #[.map (some b)] 107)).heap.size 9 1 v ss.length ((ss.mergeSort (λx y=>decide (x<=y))).map encStr)/\(v=.slice none 0 0↔ss=[])/\ay (w.alloc (.cells #[.map (some b)] 107)).heap.size (w.alloc (.cells #[.map (some b)] 107)) w':=by
 refine(callsIn_wide (n:=5)).1 ?_;have fZ:=fe.lt;have Oa:SeqGives Fence.wide 2 prog 78 #[.pointer (some ⟨w.heap.size,0,none⟩)] encStr (λss=>ss.Perm (strKeys D0)) (Maps.size D0) (w.alloc (.cells #[.map (some b)] 107)):=
  AnyZ.keys_gives (ρ:=Try.keysOf_ren) {Try.keysOf with} Fence.wide _ trivial rfl (by omega) w.heap.size b nn D0 _ (by simp) (by simp) (by
   obtain⟨es,clock,hb,Ft,hs,hD⟩:=fe
   exact⟨es,clock,(Below.heap_alloc _ _ b fZ).trans hb,Ft,hs,hD⟩)
 exact AnyZ.sorted_in Try.sortedOf Fence.wide 5 trivial trivial trivial trivial rfl (by omega) (Try.sorts_of _) (enters_of func77 (by kernel_rfl) rfl) 78 #[.pointer (some ⟨w.heap.size,0,none⟩)] trivial (enters_of func78 (by kernel_rfl) rfl) _ _ Oq iX _ Oa
end Go.Proofs
namespace Go.Proofs.Ytkpekiajdlolnaa
open Go.RowKit Go.Maps Go.Sort
theorem q4h (L:KV):strKeys (DM L)=L.map (·.1):=by
 show List.map _ (List.map _ L)=_;rw[List.map_map];rfl
theorem jct (a b:Bs):bi a b=decide (a<b):=by rw[<-Fu,bytesLess_eq]
theorem Yo (h:wP L) {ss:List Bs} (hp:ss.Perm (L.map (·.1))):ss.mergeSort (λx y=>decide (x<=y))=L.map (·.1):=by
 rw[mergeSort_of_perm hp];refine List.mergeSort_of_pairwise ?_;rw[List.pairwise_map];refine List.Pairwise.imp ?_ h;intro a b gB;rw[jct]at gB;exact xdt (List.le_of_lt (of_decide_eq_true gB))
theorem VL (hm:jf w mb L) (s:ByteArray) (hs:s.size<=aR):(aT 107 (.map (some mb)) (.string s) false).run prog w=.ok (.agg #[sv ((jr L s.data.toList).getD [])]) w:=by
 have fe:=hm;obtain⟨v,ps,dZ,hv⟩:=fe.lookup (string_keyed underlying9) underlying107 (PX w) (zd:=ev []) (zp:=[]) rfl (Ii s hs);rw[QM]at hv;have:Rv v=some (ev ((jr L s.data.toList).getD []),ps):=by
  rw[hv];cases jr L s.data.toList<;>rfl
 rw[dZ,PO this]
theorem Q7 (pv:ByteArray) (w:ae):(Instr.field 111 (.agg #[.string pv]) 0).run prog w=.ok (.string pv) w:=by kernel_rfl
theorem jf9 (h:wP L) (hp:L[j]?=some p):jr L p.1=some p.2:=by
 have wD:p∈L:=bj hp;clear hp;unfold jr;induction L with
 |nil=>cases wD
 |cons q L ih=>
  obtain⟨h1,h2⟩:=List.pairwise_cons.1 h;rw[List.find?_cons];rcases List.mem_cons.1 wD with rfl|hm
  ·simp
  ·rw[jcu (h1 p hm)];exact ih h2 hm
def LJ (w:ae) (L:KV) (e:Ending) (w':ae):Prop:= ∃v,e=.returned v/\EZ w' w.heap.size v L/\ay w.heap.size w w'
theorem Sj (f:Bs×Bs->Bool) (hp:L[j]?=some p):(L.take (j+1)).filter f=(L.take j).filter f++(if f p then[p]else[]):=by
 obtain⟨hj,rfl⟩:=aB.1 hp;rw[List.take_succ_eq_append_getElem hj,List.filter_append,List.filter_cons,List.filter_nil]
section
variable {w:ae} {db mb:Nat} {L:KV}
structure PrW (W:ae) (db mb:Nat) (L:KV) (s t:Bs) (j:Nat) (out:ah) (w:ae):Prop where
 row:EZ w W.heap.size out ((L.take j).filter (inB s t))
 below:ay W.heap.size W w
theorem PrW.app {W:ae} {s t:Bs} {out:ah} (h:PrW W db mb L s t j out w) (hp:L[j]?=some p) (gQ:inB s t p=true) {v':ah} (uz:ay W.heap.size W w1) (JQ:w1.ownsRow W.heap.size 44 2 out ((L.take j).filter (inB s t)).length (flat ((L.take j).filter (inB s t)))) (hg:w1.grownBy w2 out.ownBlock)
  (hr:w2.ownsRow W.heap.size 44 2 v' (((L.take j).filter (inB s t)).length+1) (flat ((L.take j).filter (inB s t))++[sv p.1,sv p.2])) (ha:qC w2 v'):PrW W db mb L s t (j+1) v' w2:=by
 refine⟨?_,YR uz hg JQ (jm _) uz.size⟩;rw[Sj _ hp,gQ,if_pos rfl];exact KP hr ha (jm _) (by rw[RJ];rfl)
theorem PrW.skip {W:ae} {s t:Bs} {out:ah} (h:PrW W db mb L s t j out w) (hp:L[j]?=some p) (gQ:inB s t p=false):PrW W db mb L s t (j+1) out w:=by
 refine⟨?_,h.below⟩;rw[Sj _ hp,gQ];simpa using h.row
theorem sorted_at (hm:jf w mb L) (mI:wP L) (hL:L.length<=12):
  ao prog 52 #[.func (.func 78) #[] #[.pointer (some ⟨w.heap.size,0,none⟩)]] (w.alloc (.cells #[.map (some mb)] 107)) λe w'=>
   ((L=[]/\e=.returned (.slice none 0 0))\/∃kb cap,L≠[]/\e=.returned (.slice (some ⟨kb,0,none⟩) L.length cap)/\∀j (p:Bs×Bs),L[j]?=some p->w'.cell? ⟨kb,j,none⟩=some (sv p.1))/\ay w.heap.size w w':=by
 refine(Try.slices_sorted mb L.length (DM L) Rv w hm (by rw[Iq];unfold aR;omega) (by rw[Iq];omega)).mono ?_;rintro e w' ⟨kv,ss,rfl,hp,hr,hn,hb⟩;have fH:ay w.heap.size w w':=((zi _ w).alloc (jm _) _).trans (hb.mono (by simp));rw[q4h]at hp;have hlen:ss.length=L.length:=by rw[hp.length_eq,List.length_map]
 rw[Yo mI hp]at hr;refine⟨?_,fH⟩;by_cases he:L=[]
 ·have:ss=[]:=aQ (by rw[hlen,he];rfl);exact .inl ⟨he,by rw[hn.2 this]⟩
 ·rcases hr.2 with⟨_,hz⟩|⟨kb,cap,cur,vK,_⟩
  ·exact absurd (aQ (by omega)) he
  ·refine .inr ⟨kb,cap,he,by rw[vK,hlen],λj p hj=>?_⟩;have h1:((L.map (·.1)).map encStr)[j]?=some (sv p.1):=by rw[aJ,aJ,hj];rfl
   have h2:=hr.cells (g:=kb) (by rw[vK];rfl) _ _ h1;rwa [Addr.add_lit,Nat.zero_add]at h2
theorem WL (hd:w.cell? ⟨db,0,none⟩=some (.map (some mb))) (hm:jf w mb []) (s t:ByteArray):
  ao prog 26 #[.pointer (some ⟨db,0,none⟩),.string s,.string t] w (LJ w []):=by
 have HS:=Hd (sorted_at hm List.Pairwise.nil (by decide));clear hm;go_enter func26,ntmps26;go_wp2_with (first
  |(go_at_call 53;refine(Try.maps_keys _ _).mono ?_;rintro e w' ⟨rfl,rfl⟩)
  |(go_at_call 52;refine(HS.mono λe w' h=>(show(e=.returned (.slice none 0 0))/\ay w.heap.size w w' from⟨h.1.elim (·.2) (λ⟨_,_,h,_⟩=>(h rfl).elim),h.2⟩)).mono ?_;rintro e w2 ⟨rfl,fJ⟩;have HB:=Hd fJ;clear fJ))
 refine wp_loop_rounds 1 ?_;rw[rounds_succ];go_wp2;go_ret;exact⟨_,rfl,⟨aZ _ _ _ _,qC.nil _⟩,HB.o⟩
theorem X5 (eD:L≠[]) (hd:w.cell? ⟨db,0,none⟩=some (.map (some mb))) (hm:jf w mb L) (mI:wP L) (hL:L.length<=12) (iK:∀p∈L,p.1.length<=aR) (s t:ByteArray):
  ao prog 26 #[.pointer (some ⟨db,0,none⟩),.string s,.string t] w (LJ w (L.filter (inB s.data.toList t.data.toList))):=by
 have HS:=Hd (sorted_at hm mI hL);have HM:=Hd hm;have HR:=Hd mI;have HK:=Hd iK;have HN:=Hd eD;clear hm mI iK eD;go_enter func26,ntmps26;go_wp2_with (first
  |(go_at_call 53;refine(Try.maps_keys _ _).mono ?_;rintro e w' ⟨rfl,rfl⟩)
  |(go_at_call 52;refine(HS.mono λe w' h=>(show(∃kb cap,e=.returned (.slice (some ⟨kb,0,none⟩) L.length cap)/\∀j (p:Bs×Bs),L[j]?=some p->w'.cell? ⟨kb,j,none⟩=some (sv p.1))/\ay w.heap.size w w' from⟨h.1.elim (λh=>(HN.o h.1).elim) (λ⟨kb,cap,_,h⟩=>⟨kb,cap,h⟩),h.2⟩)).mono ?_;rintro e w2 ⟨⟨kb,cap,rfl,xA⟩,fJ⟩;have HC:=Hd xA;have HB:=Hd fJ;clear xA fJ))
 go_loopw [7,17] (λout i wr=>∃j:Nat,j<=L.length/\i=.int .i64 j/\Hid (PrW w2 db mb L s.data.toList t.data.toList j out wr)) (λ_ i _=>L.length-(intOf i).toNat);case atStart=>exact⟨0,xzl _,rfl,Hd ⟨⟨aZ _ _ _ _,qC.nil _⟩,zi _ _⟩⟩
 case round=>
  obtain⟨j,hj,rfl,HP⟩:=hrel;have Ve:Hid (((L.take j).filter (inB s.data.toList t.data.toList)).length+1<=1073741824):=by
   have h1:=List.length_filter_le (inB s.data.toList t.data.toList) (L.take j);rw[List.length_take]at h1;show _<=_;omega
  by_cases mP:j<L.length
  ·obtain⟨p,hp⟩:∃p,L[j]?=some p:=⟨_,aE mP⟩
   have Cm:=HC.o j p hp;have xA:=(HP.below.cell (xbl _ _ Cm)).trans Cm;have D7:ay w.heap.size w wr:=HB.trans (HP.below.mono HB.size);have hdr:=(D7.cell (xbl _ _ hd)).trans hd;have wD:p∈L:=bj hp;have vI:=VL (HM.block (D7.block mb HM.lt)) ⟨p.1.toArray⟩ (by have:=HK.o p wD;simpa[ByteArray.size]using this);rw[show(⟨p.1.toArray⟩:ByteArray).data.toList=p.1 by simp,jf9 HR.o hp,aN]at vI;have e1:aK (⟨p.1.toArray⟩:ByteArray).toList s.toList=bi p.1 s.data.toList:=by rw[Fu,ag,ag]
   have e2:aK (⟨p.1.toArray⟩:ByteArray).toList t.toList=bi p.1 t.data.toList:=by rw[Fu,ag,ag]
   have e3:t.toList.isEmpty=t.data.toList.isEmpty:=by rw[ag]
   have zL:inB s.data.toList t.data.toList p=(!aK (⟨p.1.toArray⟩:ByteArray).toList s.toList&&(t.toList.isEmpty||aK (⟨p.1.toArray⟩:ByteArray).toList t.toList)):=by rw[e1,e2,e3];rfl
   clear Cm D7 wD e1 e2 e3;cases g1:aK (⟨p.1.toArray⟩:ByteArray).toList s.toList
   ·cases g2:t.toList.isEmpty
    ·cases g3:aK (⟨p.1.toArray⟩:ByteArray).toList t.toList
     ·have gQ:inB s.data.toList t.data.toList p=false:=by rw[zL,g1,g2,g3];rfl
      clear zL;have NP:=Hd (HP.skip hp gQ);unfold sv at xA vI;generalize (⟨p.1.toArray⟩:ByteArray)=pk at*;generalize (⟨p.2.toArray⟩:ByteArray)=pv at*;clear gQ hp;go_wp2;go_roundw;case rel=>exact⟨j+1,by omega,rfl,NP.o⟩
      case measure=>simp[intOf];omega
     ·have gQ:inB s.data.toList t.data.toList p=true:=by rw[zL,g1,g2,g3];rfl
      clear zL;have Ez:=Hd (λv' w1 w3=>HP.app (v':=v') (w1:=w1) (w2:=w3) hp gQ);unfold sv at Ez xA vI;generalize (⟨p.1.toArray⟩:ByteArray)=pk at*;generalize (⟨p.2.toArray⟩:ByteArray)=pv at*;clear gQ hp;have hfd:=Q7 pv;go_wp2_with (at_builtin;refine Rk (v:=u7) rfl (.tmp 33) (.tmp 43) rfl rfl rfl (HP.row.1.alloc _) (HP.row.2.alloc _) (Src.one wr pk pv _) Ve.o (xlt HP.below.size (by simp)) ?_;intro v3 w3 o9 EW Gl;have NQ:=Hd (Ez.out v3 _ w3 (HP.below.alloc HP.below.size _) (HP.row.1.alloc _) Gl o9 EW);clear o9 EW Gl)
      go_roundw;case rel=>exact⟨j+1,by omega,rfl,NQ⟩
      case measure=>simp[intOf];omega
    ·have gQ:inB s.data.toList t.data.toList p=true:=by rw[zL,g1,g2];rfl
     clear zL;have Ez:=Hd (λv' w1 w3=>HP.app (v':=v') (w1:=w1) (w2:=w3) hp gQ);unfold sv at Ez xA vI;generalize (⟨p.1.toArray⟩:ByteArray)=pk at*;generalize (⟨p.2.toArray⟩:ByteArray)=pv at*;clear gQ hp;have hfd:=Q7 pv;go_wp2_with (at_builtin;refine Rk (v:=u7) rfl (.tmp 33) (.tmp 43) rfl rfl rfl (HP.row.1.alloc _) (HP.row.2.alloc _) (Src.one wr pk pv _) Ve.o (xlt HP.below.size (by simp)) ?_;intro v3 w3 o9 EW Gl;have NQ:=Hd (Ez.out v3 _ w3 (HP.below.alloc HP.below.size _) (HP.row.1.alloc _) Gl o9 EW);clear o9 EW Gl)
     go_roundw;case rel=>exact⟨j+1,by omega,rfl,NQ⟩
     case measure=>simp[intOf];omega
   ·have gQ:inB s.data.toList t.data.toList p=false:=by rw[zL,g1];rfl
    clear zL;have NP:=Hd (HP.skip hp gQ);unfold sv at xA vI;generalize (⟨p.1.toArray⟩:ByteArray)=pk at*;generalize (⟨p.2.toArray⟩:ByteArray)=pv at*;clear gQ hp;go_wp2;go_roundw;case rel=>exact⟨j+1,by omega,rfl,NP.o⟩
    case measure=>simp[intOf];omega
  ·obtain rfl:j=L.length:=by omega
   have HE:=Hd HP.row;rw[List.take_length]at HE;go_wp2;go_ret;exact⟨_,rfl,KP HE.1 HE.2 HB.size rfl,HB.trans (HP.below.mono HB.size)⟩
theorem P9 (hd:w.cell? ⟨db,0,none⟩=some (.map (some mb))) (hm:jf w mb L) (mI:wP L) (hL:L.length<=12) (iK:∀p∈L,p.1.length<=aR) (s t:ByteArray):
  ao prog 26 #[.pointer (some ⟨db,0,none⟩),.string s,.string t] w (LJ w (L.filter (inB s.data.toList t.data.toList))):=by
 by_cases eD:L=[]
 ·subst eD;exact WL hd hm s t
 ·exact X5 eD hd hm mI hL iK s t
end
end Go.Proofs.Ytkpekiajdlolnaa
namespace Go.Proofs.Ytkpekiajdlolnaa.Ph
open Go.Conc Go.ConcN Go.RowKit Go.Maps Go.Conc.Lib Go Sim
section
variable {e:bw->ah} {o:Oper} {p q r s:bw} {v:ah} {g f k:Nat} {w:ae} {i j l:Int} {sa:Option Addr} {n cp:Nat}
theorem q13 (h:o.op=.fieldAddr 60 p 3) (hp:e p=.pointer (some ⟨g,0,none⟩)):(aG e o).run prog w=.ok (.value (.pointer (some ⟨g,14,none⟩))) w:=by
 have hu:=underlying60;unfold aG;simp[go_sem,h,hp,hu]
theorem XV (h:o.op=.build 67 #[(0,p),(1,q),(2,r),(3,s)]) (hp:e p=.int .i64 i) (hq:e q=.int .i64 j) (hr:e r=.int .i64 l) (hs:e s=.slice sa n cp):(aG e o).run prog w=.ok (.value (.agg #[.int .i64 i,.int .i64 j,.int .i64 l,.slice sa n cp,.slice none 0 0,.int .u8 0,.int .i64 0,.int .i64 0,.int .i64 0,.string ⟨#[]⟩,.string ⟨#[]⟩,.int .i64 0,.bool false])) w:=by
 unfold aG;simp[go_sem,h,hp,hq,hr,hs]
theorem q11 {i j l:Int} {sa:Option Addr} {n cp:Nat} (h:o.op=.box 67 p) (hp:e p=.agg #[.int .i64 i,.int .i64 j,.int .i64 l,.slice sa n cp,.slice none 0 0,.int .u8 0,.int .i64 0,.int .i64 0,.int .i64 0,.string ⟨#[]⟩,.string ⟨#[]⟩,.int .i64 0,.bool false]):(aG e o).run prog w=.ok (.value (.pointer (some ⟨w.heap.size,0,none⟩))) (w.alloc (.cells #[.int .i64 i,.int .i64 j,.int .i64 l,.slice sa n cp,.slice none 0 0,.int .u8 0,.int .i64 0,.int .i64 0,.int .i64 0,.string ⟨#[]⟩,.string ⟨#[]⟩,.int .i64 0,.bool false] 67)):=by
 have hA:=Try.isAgg67;unfold aG;simp[go_sem,h,hp,hA]
theorem WB {o:Oper} {p q r:bw} {f:FuncId} {ty:Array aP} {u v x:ah} {fn:Func} {w:ae} (h:o.op=.call {callee:=.value (.func f),args:=#[p,q,r],argTypes:=ty}) (hp:a.eval p=u) (hq:a.eval q=v) (hr:a.eval r=x) (hf:prog.funcs[f]?=some fn) (jX:(fn.name== "runtime.NumGoroutine")=false) (hb:fn.body.isNone=false):(aG a.eval o).run prog w=.ok (.enter f #[u,v,x]) w:=by
 rw[run_call_body h hf jX hb];simp[hp,hq,hr]
theorem q35 (L:KV):L.filter (inB [] [])=L:=by
 rw[List.filter_eq_self];intro p _;have e:bi p.1 []=false:=by cases p.1<;>rfl
 simp[inB,e]
end
noncomputable def bg1:Array Oper:=match Try.f28.body with
 |some (.seq _ (.seq a _))=>rg a
 |_=>#[]
theorem jgb (y:Nat->ah):lay 46 y=#[y 0,y 1,y 2,y 3,y 4,y 5,y 6,y 7,y 8,y 9,y 10,y 11,y 12,y 13,y 14,y 15,y 16,y 17,y 18,y 19,y 20,y 21,y 22,y 23,y 24,y 25,y 26,y 27,y 28,y 29,y 30,y 31,y 32,y 33,y 34,y 35,y 36,y 37,y 38,y 39,y 40,y 41,y 42,y 43,y 44,y 45]:=rfl
noncomputable def bgo (k:Nat):Oper:=bg1.getD k ⟨none,.alloc 0,0, "",#[],none⟩
theorem q29:Dc bg1 46=true:=by kernel_rfl
section
variable {cl n db mb id ow to:Nat} {L:KV} {w0:ae}
def Kbg (cl n db id ow to:Nat) (L:KV) (w0:ae):Nat->ah->ae->Prop
 |0,u,_=>u=.pointer (some ⟨cl,1+n*3,none⟩)
 |1,u,_=>u=.pointer (some ⟨cl,0,none⟩)
 |2,u,_=>u=.pointer (some ⟨cl,0,none⟩)
 |3,u,_=>u=.pointer (some ⟨cl,14,none⟩)
 |4,u,_=>u=.int .i64 id
 |5,u,_=>u=.pointer (some ⟨cl,1+n*3,none⟩)
 |6,u,_=>u=.pointer (some ⟨cl,1+n*3,none⟩)
 |7,u,_=>u=.pointer (some ⟨cl,1+n*3,none⟩)
 |8,u,_=>u=.int .i64 ow
 |9,u,_=>u=.int .i64 to
 |10,u,_=>u=.pointer (some ⟨cl,1+n*3,none⟩)
 |11,u,_=>u=.pointer (some ⟨cl,1+n*3,none⟩)
 |12,u,_=>u=.pointer (some ⟨cl,1+n*3+1,none⟩)
 |13,u,_=>u=.pointer (some ⟨db,0,none⟩)
 |14,u,w=>∃s c,u=.slice s L.length c/\w.ownsRow w0.heap.size 44 2 u L.length (flat L)
 |15,u,w=>∃s c,u=.agg #[.int .i64 id,.int .i64 ow,.int .i64 to,(.slice s L.length c),.slice none 0 0,.int .u8 0,.int .i64 0,.int .i64 0,.int .i64 0,.string ⟨#[]⟩,.string ⟨#[]⟩,.int .i64 0,.bool false]/\w.ownsRow w0.heap.size 44 2 (.slice s L.length c) L.length (flat L)
 |16,u,w=>∃s c g,u=.pointer (some ⟨g,0,none⟩)/\w0.heap.size<=g/\w.heap[g]?=some (.cells #[.int .i64 id,.int .i64 ow,.int .i64 to,(.slice s L.length c),.slice none 0 0,.int .u8 0,.int .i64 0,.int .i64 0,.int .i64 0,.string ⟨#[]⟩,.string ⟨#[]⟩,.int .i64 0,.bool false] 67 (0,0))/\w.ownsRow w0.heap.size 44 2 (.slice s L.length c) L.length (flat L)
 |17,u,_=>u=.pointer (some ⟨cl,1+n*3,none⟩)
 |18,u,_=>u=.pointer (some ⟨cl,1+n*3+2,none⟩)
 |_,_,_=>True
theorem Rx (j:Nat) (u:ah) (w w':ae) (hb:ay w.heap.size w w') (h:Kbg cl n db id ow to L w0 j u w):Kbg cl n db id ow to L w0 j u w':=by
 match j,h with
 |0,h|1,h|2,h|3,h|4,h|5,h|6,h|7,h|8,h|9,h|10,h|11,h|12,h|13,h=>exact h
 |14,⟨s,c,h1,h2⟩=>exact⟨s,c,h1,zu h2 λq hq=>hb.block q (h2.lt q hq).2⟩
 |15,⟨s,c,h1,h2⟩=>exact⟨s,c,h1,zu h2 λq hq=>hb.block q (h2.lt q hq).2⟩
 |16,⟨s,c,g,h1,h2,h3,h4⟩=>exact⟨s,c,g,h1,h2,(hb.block g (yc h3).1).trans h3,zu h4 λq hq=>hb.block q (h4.lt q hq).2⟩
 |17,h|18,h=>exact h
 |i+19,_=>trivial
theorem jcv (eT:a.tmps.size=46) (Ng:a.defers=[]) (h0:a.tmps.getD 0 aS=.pointer (some ⟨cl,0,none⟩)) (h1:a.tmps.getD 1 aS=.pointer (some ⟨cl,1+n*3,none⟩)) (h3:a.tmps.getD 3 aS=.int .i64 to)
  (cI:w.cell? ⟨cl,14,none⟩=some (.int .i64 id)) (cO:w.cell? ⟨cl,1+n*3,none⟩=some (.int .i64 ow)) (cD:w.cell? ⟨cl,1+n*3+1,none⟩=some (.pointer (some ⟨db,0,none⟩))) (cV:∃v,w.cell? ⟨cl,1+n*3+2,none⟩=some v) (fV:w.frozen? ⟨cl,1+n*3+2,none⟩=false) (cm:w.cell? ⟨db,0,none⟩=some (.map (some mb))) (hm:jf w mb L) (mI:wP L) (hL:L.length<=12) (iK:∀p∈L,p.1.length<=aR)
  (hQ:∀y w1 g s c,(∀s,(∀(j:Nat) o,bg1[j]?=some o->o.dst≠some s)->y s=a.tmps.getD s aS)->ay w.heap.size w w1->w.heap.size<=g->w1.heap[g]?=some (.cells #[.int .i64 id,.int .i64 ow,.int .i64 to,(.slice s L.length c),.slice none 0 0,.int .u8 0,.int .i64 0,.int .i64 0,.int .i64 0,.string ⟨#[]⟩,.string ⟨#[]⟩,.int .i64 0,.bool false] 67 (0,0))->w1.ownsRow w.heap.size 44 2 (.slice s L.length c) L.length (flat L)->Q .normal ⟨lay 46 y,[]⟩ (w1.setCell ⟨cl,1+n*3+2,none⟩ (.pointer (some ⟨g,0,none⟩)))):(aq 1 bg1 true).wp prog Q a w:=by
 have ME:=xbl w _ cI;have ltd:=xbl w _ cm;refine YZ (n:=46) (x0:=λs=>a.tmps.getD s aS) (turn:=20) (KN:=Kbg cl n db id ow to L w) (J:=λ_ w1=>ay w.heap.size w w1) (by kernel_rfl) q29 ⟨_,?_,λ_=>rfl⟩ (aV (zi _ _)) ?_ ?_
 ·obtain⟨t,df⟩:=a;obtain rfl:df=[]:=Ng;rw[Fg eT]
 ·intro j o d y w1 b hbt ho hd hy vg hJ;have old:∀q,q<w.heap.size->w1.heap[q]?=w.heap[q]?:=λq h1=>hJ.block q h1;have y0:y 0=.pointer (some ⟨cl,0,none⟩):=(hy 0 (sK (by kernel_rfl))).trans h0;have y1:y 1=.pointer (some ⟨cl,1+n*3,none⟩):=(hy 1 (sK (by kernel_rfl))).trans h1;have y3:y 3=.int .i64 to:=(hy 3 (sK (by kernel_rfl))).trans h3;match j,ho with
  |0,ho=>
   cases ho;cases hd;exact jh (run_move rfl (tmq y1)) ⟨_,qi rfl,rfl,hJ,λ_ _ _ h=>h⟩
  |1,ho=>
   cases ho;cases hd;exact jh (run_move rfl (tmq y0)) ⟨_,qi rfl,rfl,hJ,λ_ _ _ h=>h⟩
  |2,ho=>
   cases ho;cases hd;have k1:y 16=.pointer (some ⟨cl,0,none⟩):=vg 1 _ 16 rfl rfl (q9 rfl);exact jh (II rfl (tmq k1)) ⟨_,qi rfl,rfl,hJ,λ_ _ _ h=>h⟩
  |3,ho=>
   cases ho;cases hd;have k2:y 17=.pointer (some ⟨cl,0,none⟩):=vg 2 _ 17 rfl rfl (q9 rfl);exact jh (q13 rfl (tmq k2)) ⟨_,qi rfl,rfl,hJ,λ_ _ _ h=>h⟩
  |4,ho=>
   cases ho;cases hd;have k3:y 18=.pointer (some ⟨cl,14,none⟩):=vg 3 _ 18 rfl rfl (q9 rfl);exact jh (yg (ty:=3) rfl (tmq k3) (by simp[isAgg]) ((xcb (old cl ME)).trans cI)) ⟨_,qi rfl,rfl,hJ,λ_ _ _ h=>h⟩
  |5,ho=>
   cases ho;cases hd;exact jh (run_move rfl (tmq y1)) ⟨_,qi rfl,rfl,hJ,λ_ _ _ h=>h⟩
  |6,ho=>
   cases ho;cases hd;have k5:y 20=.pointer (some ⟨cl,1+n*3,none⟩):=vg 5 _ 20 rfl rfl (q9 rfl);exact jh (II rfl (tmq k5)) ⟨_,qi rfl,rfl,hJ,λ_ _ _ h=>h⟩
  |7,ho=>
   cases ho;cases hd;have k6:y 21=.pointer (some ⟨cl,1+n*3,none⟩):=vg 6 _ 21 rfl rfl (q9 rfl);exact jh (LU 0 (by decide) rfl (tmq k6)) ⟨_,qi rfl,rfl,hJ,λ_ _ _ h=>h⟩
  |8,ho=>
   cases ho;cases hd;have k7:y 22=.pointer (some ⟨cl,1+n*3,none⟩):=vg 7 _ 22 rfl rfl (q9 rfl);exact jh (yg (ty:=3) rfl (tmq k7) (by simp[isAgg]) ((xcb (old cl ME)).trans cO)) ⟨_,qi rfl,rfl,hJ,λ_ _ _ h=>h⟩
  |9,ho=>
   cases ho;cases hd;exact jh (run_move rfl (tmq y3)) ⟨_,qi rfl,rfl,hJ,λ_ _ _ h=>h⟩
  |10,ho=>
   cases ho;cases hd;exact jh (run_move rfl (tmq y1)) ⟨_,qi rfl,rfl,hJ,λ_ _ _ h=>h⟩
  |11,ho=>
   cases ho;cases hd;have qJ:y 25=.pointer (some ⟨cl,1+n*3,none⟩):=vg 10 _ 25 rfl rfl (q9 rfl);exact jh (II rfl (tmq qJ)) ⟨_,qi rfl,rfl,hJ,λ_ _ _ h=>h⟩
  |12,ho=>
   cases ho;cases hd;have JI:y 26=.pointer (some ⟨cl,1+n*3,none⟩):=vg 11 _ 26 rfl rfl (q9 rfl);exact jh (LU 1 (by decide) rfl (tmq JI)) ⟨_,qi rfl,rfl,hJ,λ_ _ _ h=>h⟩
  |13,ho=>
   cases ho;cases hd;have JH:y 27=.pointer (some ⟨cl,1+n*3+1,none⟩):=vg 12 _ 27 rfl rfl (q9 rfl);exact jh (yg (ty:=54) rfl (tmq JH) (by simp[isAgg]) ((xcb (old cl ME)).trans cD)) ⟨_,qi rfl,rfl,hJ,λ_ _ _ h=>h⟩
  |14,ho=>
   cases ho;cases hd;have MI:y 28=.pointer (some ⟨db,0,none⟩):=vg 13 _ 28 rfl rfl (q9 rfl);refine IB (WB rfl (tmq MI) rfl rfl func26 rfl rfl) (P9 ((xcb (old _ ltd)).trans cm) (hm.block (old _ hm.lt)) mI hL iK ⟨#[]⟩ ⟨#[]⟩) ?_;have he:L.filter (inB (⟨#[]⟩:ByteArray).data.toList (⟨#[]⟩:ByteArray).data.toList)=L:=q35 L;rw[he];rintro e w2 ⟨v,rfl,hr,hb⟩;obtain⟨s,c,rfl⟩:=WC hr;exact⟨_,rfl,_,qi rfl,⟨s,c,rfl,(KP hr.1 hr.2 hJ.size rfl).1⟩,hJ.trans (hb.mono hJ.size),λi u _ h=>Rx i u _ _ hb h⟩
  |15,ho=>
   cases ho;cases hd;have k4:y 19=.int .i64 id:=vg 4 _ 19 rfl rfl (q9 rfl);have k8:y 23=.int .i64 ow:=vg 8 _ 23 rfl rfl (q9 rfl);have k9:y 24=.int .i64 to:=vg 9 _ 24 rfl rfl (q9 rfl);obtain⟨s,c,JG,Vu⟩:Kbg cl n db id ow to L w 14 (y 29) w1:=vg 14 _ 29 rfl rfl (q9 rfl);exact jh (XV rfl (tmq k4) (tmq k8) (tmq k9) (tmq JG)) ⟨_,qi rfl,⟨s,c,rfl,JG▸Vu⟩,hJ,λ_ _ _ h=>h⟩
  |16,ho=>
   cases ho;cases hd;obtain⟨s,c,MH,Pj⟩:Kbg cl n db id ow to L w 15 (y 30) w1:=vg 15 _ 30 rfl rfl (q9 rfl);have fZ:ay w1.heap.size w1 (w1.alloc (.cells #[.int .i64 id,.int .i64 ow,.int .i64 to,(.slice s L.length c),.slice none 0 0,.int .u8 0,.int .i64 0,.int .i64 0,.int .i64 0,.string ⟨#[]⟩,.string ⟨#[]⟩,.int .i64 0,.bool false] 67)):=(zi _ _).alloc (jm _) _;exact jh (q11 rfl (tmq MH)) ⟨_,qi rfl,⟨s,c,w1.heap.size,rfl,hJ.size,aW _ _,zu Pj λq hq=>fZ.block q (Pj.lt q hq).2⟩,hJ.trans (fZ.mono hJ.size),λi u _ h=>Rx i u _ _ fZ h⟩
  |17,ho=>
   cases ho;cases hd;have k0:y 15=.pointer (some ⟨cl,1+n*3,none⟩):=vg 0 _ 15 rfl rfl (q9 rfl);exact jh (II rfl (tmq k0)) ⟨_,qi rfl,rfl,hJ,λ_ _ _ h=>h⟩
  |18,ho=>
   cases ho;cases hd;have MF:y 32=.pointer (some ⟨cl,1+n*3,none⟩):=vg 17 _ 32 rfl rfl (q9 rfl);exact jh (LU 2 (by decide) rfl (tmq MF)) ⟨_,qi rfl,rfl,hJ,λ_ _ _ h=>h⟩
  |19,ho=>
   obtain rfl:=xop (a:=bgo 19) rfl ho;exact absurd (show(bgo 19).dst=none from rfl) (by rw[hd];exact λe=>by cases e)
  |i+20,ho=>exact absurd ho (by rw[Array.getElem?_eq_none (show bg1.size<=i+20 by show 20<=i+20;omega)];exact λe=>by cases e)
 ·intro mm o y w1 M5 ho hy hk hJ;obtain rfl:mm=19:=by
   have:mm+1=20:=M5;omega
  obtain rfl:=xop (a:=bgo 19) rfl ho;have ka:y 33=.pointer (some ⟨cl,1+n*3+2,none⟩):=hk 18 (bgo 18) 33 rfl rfl;obtain⟨s,c,g,kb,q1,q2,q3⟩:Kbg cl n db id ow to L w 16 (y 31) w1:=hk 16 (bgo 16) 31 rfl rfl;obtain⟨v0,cV⟩:=cV;have dW:=xbl w _ cV;have iZ:w1.cell? ⟨cl,1+n*3+2,none⟩=some v0:=(xcb (hJ.block _ dW)).trans cV;have fD:w1.frozen? ⟨cl,1+n*3+2,none⟩=false:=(World.frozen?_of_block (hJ.block _ dW)).trans fV;have hr:(aG (Act.mk (lay 46 y) []).eval (bgo 19)).run prog w1=.ok .skip (w1.setCell ⟨cl,1+n*3+2,none⟩ (.pointer (some ⟨g,0,none⟩))):=by
   have e1:(Act.mk (lay 46 y) []).eval (.tmp 33)=.pointer (some ⟨cl,1+n*3+2,none⟩):=tmp (by decide) ka;have e2:(Act.mk (lay 46 y) []).eval (.tmp 31)=.pointer (some ⟨g,0,none⟩):=tmp (by decide) kb;have dU:(bgo 19).op=.store 55 (.tmp 33) (.tmp 31):=rfl;have hu:=underlying55;generalize (Act.mk (lay 46 y) []).eval=ev at*;unfold aG;simp[go_sem,dU,e1,e2,hu,isAgg,iZ,fD]
  unfold Oper.wp;rw[hr];exact hQ y w1 g s c hy hJ q1 q2 q3
end
section
variable {w w':ae} {cl db mb x n:Nat} {L:KV} {pv cv:ah} {ld:ByteArray} {m:Mv}
theorem Lv {w4:ae} {k v:ByteArray} {g:Bool} {cv':ah} (he:qG L k.data.toList v.data.toList g=0/\chL L k.data.toList v.data.toList g=X) (hm:jf w3 mb X) (hx:MX x n pv cv ld m w3) (h3:But (· =mb) w w3)
  (h4:MX x n pv cv' ld {m with cs:=m.cs++[H8 k v g]} w4/\(∀b,cv'.ownBlock=some b->cv.ownBlock=some b\/w3.heap.size<=b)/\But (λq=>q=x\/cv.ownBlock=some q) w3 w4):
  IA w mb x n pv cv ld m (chL L k.data.toList v.data.toList g) (csL L m.cs k v g) (qG L k.data.toList v.data.toList g) (.returned (.int .i64 0)) w4:=by
 unfold csL;rw[he.1,he.2,if_pos rfl];refine⟨rfl,hm.block (h4.2.2.keep _ hm.lt ?_),⟨cv',h4.1,λb hb=>(h4.2.1 b hb).imp id λe=>xlt h3.size e⟩,(h3.mono λb e=>.inl e).trans (h4.2.2.mono λb e=>.inr e)⟩;rintro(e|e)
 ·exact j4 hm hx.b e.symm
 ·obtain⟨c,hc⟩:=jo.ty hx.r e;exact j4 hm hc rfl
theorem YB (k v:ByteArray) (g:Bool) (n:Nat) (hn:n<4) (hk:mr k.data.toList=true) (qU:jw k.data.toList=n) (iK:k.size<=aR) (hL:L.length<=12) (hp:rO w cl n db mb (some ⟨x,0,none⟩) L) (hx:MX x n pv cv ld m w) (hs:m.sealed=false) (gD:m.cs.length<=1073741820) (lK:cv.ownBlock≠some cl):
  ao prog 22 #[.pointer (some ⟨cl,0,none⟩),.agg #[.string k,.string v,.bool g]] w (IA w mb x n pv cv ld m (chL L k.data.toList v.data.toList g) (csL L m.cs k v g) (qG L k.data.toList v.data.toList g)):=by
 have Cc:((n:Int)<4):=by omega
 have HX:=Hd hx;have HS:=Hd hs;have NU:=Hd lK;clear hx hs lK;have HCB:Hid (cv.ownBlock≠some w.heap.size):=Hd λe=>absurd (jo.lt HX.r e) (Nat.lt_irrefl _);go_enter func22,ntmps22;go_wp2_with (go_at_call 20;refine(Fh _ _ hk).mono ?_;rintro e w1 ⟨rfl,hb⟩;rw[qU])
 obtain⟨iZ,mR⟩:=ChW.of hp hb;clear hb hp;have GR:=Hd mR;have xE:=Hd (ai iZ (HX.below mR));obtain⟨c0,c1,c2,pd,pv',pm,pl⟩:=id iZ;clear mR iZ pl;go_region_held3 (λw'=>w'.cell? ⟨cl,1+n*3+1,none⟩=some (.pointer (some ⟨db,0,none⟩))/\w'.cell? ⟨w.heap.size,0,none⟩=some (.string k)/\Hid (ChM w.heap.size cl n db mb x pv cv ld m L k v g w'/\ay w.heap.size w w'))
  (first|exact⟨pd,c0,Hd ⟨⟨xE.1.drew,xE.2.below (aV (zi _ _))⟩,GR.drew⟩⟩|exact⟨(iy.1).1.d,(iy.1).1.c0,iy⟩)
  (first|(go_at_call 21;refine(QV (by assumption) iK).mono ?_;rintro e w2 ⟨rfl,kP⟩;have iy:=Hd kP;clear kP))
 obtain⟨has,jP⟩:∃b,(jr L k.data.toList).isSome=b:=⟨_,rfl⟩
 rw[jP];have HF:=Hd jP;clear jP;generalize sv ((jr L k.data.toList).getD [])=gv;obtain⟨e0,e1,e2,ed,ev,em,el⟩:=iy.1.1;obtain⟨q1,q2,q3⟩:=iy.1.2.cells;rw[HS.o]at q2;have EL:=Hd el;clear el;by_cases o5:12<v.size
 ·have HE:=Hd (PV (L:=L) (k:=k.data.toList) (g:=g) (v:=v.data.toList) (by simpa using o5));have g1:decide ((12:Int)<v.size)=true:=by simp;omega
  go_wp2;go_ret;unfold csL;rw[HE.1,HE.2,if_neg (by decide)];exact .idle iy.1.2 EL.o iy.2
 have HG:=Hd (PU (L:=L) (k:=k.data.toList) (g:=g) (v:=v.data.toList) (by simpa using o5));rw[HF.o]at HG;have g1:decide ((12:Int)<v.size)=false:=by simp;omega
 cases g
 ·cases has
  ·by_cases pz:L.length=12
   ·have HE:=Hd (HG.1 rfl rfl pz);go_wp2_with (go_at_call 37;refine(Ie em EL.o).mono ?_;rintro e w' ⟨rfl,rfl⟩)
    go_ret;unfold csL;rw[HE.1,HE.2,if_neg (by decide)];exact .idle iy.1.2 EL.o iy.2
   ·have HE:=Hd (HG.2.1 rfl (.inr pz));go_wp2_with (go_at_call 37;refine(Ie em EL.o).mono ?_;rintro e w' ⟨rfl,rfl⟩)
    refine az 5 (by kernel_rfl) (by kernel_rfl) ?_;change wpStill _ _ w2.drew (λa'=>wpList _ _ _ _ a' w2.drew) _ _;simp only[aC,aX,aD,aY];repeat still_step
    refine bk ?_;go_wp2_with (go_at_call 38;refine(Fj (w:=w2.drew) em (EL.block rfl) (by omega) k v iK).mono ?_;rintro e w3 ⟨rfl,nA,gM⟩;have kU:=Hd (ai (iy.1.1.drew.but gM nA) ((iy.1.2.below (w':=w2.drew) (aV (zi _ _))).but (EL.block rfl) gM));have wo:=Hd ((But.of_below (B:=(· =mb)) iy.2).drew.trans gM);obtain⟨f0,f1,f2,fd,fv,fm,fl⟩:=kU.1;clear fl nA gM)
    change bd _ (aq 16 cg1 true) _ _ _;refine KH (cb:=w.heap.size) (k:=k) (v:=v) (g:=false) rfl rfl rfl kU.2 fv f0 f1 f2 NU.o gD λy w4 cv' Aj Am yU=>?_;rw[Ig];have H4:=Hd (ai Aj (ai Am yU));clear Aj Am yU;go_wp2;go_ret;exact Lv HE.o kU.1.l kU.2 wo.o H4.o
  ·have HE:=Hd (HG.2.1 rfl (.inl rfl));go_wp2;refine az 5 (by kernel_rfl) (by kernel_rfl) ?_;change wpStill _ _ w2.drew (λa'=>wpList _ _ _ _ a' w2.drew) _ _;simp only[aC,aX,aD,aY];repeat still_step
   refine bk ?_;go_wp2_with (go_at_call 38;refine(Fj (w:=w2.drew) em (EL.block rfl) (by omega) k v iK).mono ?_;rintro e w3 ⟨rfl,nA,gM⟩;have kU:=Hd (ai (iy.1.1.drew.but gM nA) ((iy.1.2.below (w':=w2.drew) (aV (zi _ _))).but (EL.block rfl) gM));have wo:=Hd ((But.of_below (B:=(· =mb)) iy.2).drew.trans gM);obtain⟨f0,f1,f2,fd,fv,fm,fl⟩:=kU.1;clear fl nA gM)
   change bd _ (aq 16 cg1 true) _ _ _;refine KH (cb:=w.heap.size) (k:=k) (v:=v) (g:=false) rfl rfl rfl kU.2 fv f0 f1 f2 NU.o gD λy w4 cv' Aj Am yU=>?_;rw[Ig];have H4:=Hd (ai Aj (ai Am yU));clear Aj Am yU;go_wp2;go_ret;exact Lv HE.o kU.1.l kU.2 wo.o H4.o
 ·cases has
  ·have HE:=Hd (HG.2.2.1 rfl rfl);go_wp2;go_ret;unfold csL;rw[HE.1,HE.2,if_neg (by decide)];exact .idle iy.1.2 EL.o iy.2
  ·have HE:=Hd (HG.2.2.2 rfl rfl);go_wp2;refine az 5 (by kernel_rfl) (by kernel_rfl) ?_;change wpStill _ _ w2.drew (λa'=>wpList _ _ _ _ a' w2.drew) _ _;simp only[aC,aX,aD,aY];repeat still_step
   refine bk ?_;go_wp2_with (go_at_call 38;refine(KM (w:=w2.drew) em (EL.block rfl) k v iK).mono ?_;rintro e w3 ⟨rfl,nA,gM⟩;have kU:=Hd (ai (iy.1.1.drew.but gM nA) ((iy.1.2.below (w':=w2.drew) (aV (zi _ _))).but (EL.block rfl) gM));have wo:=Hd ((But.of_below (B:=(· =mb)) iy.2).drew.trans gM);obtain⟨f0,f1,f2,fd,fv,fm,fl⟩:=kU.1;clear fl nA gM)
   change bd _ (aq 16 cg1 true) _ _ _;refine KH (cb:=w.heap.size) (k:=k) (v:=v) (g:=true) rfl rfl rfl kU.2 fv f0 f1 f2 NU.o gD λy w4 cv' Aj Am yU=>?_;rw[Ig];have H4:=Hd (ai Aj (ai Am yU));clear Aj Am yU;go_wp2;go_ret;exact Lv HE.o kU.1.l kU.2 wo.o H4.o
end
end Go.Proofs.Ytkpekiajdlolnaa.Ph
namespace Go.Proofs.Ytkpekiajdlolnaa
open Go.RowKit Go.Maps
section
variable {w w':ae} {F F':Nat->Prop} {A:PA} {s:St} {n:Nat}
def sO:Option Mv->Bool
 |none=>false
 |some m=>m.sealed
theorem jQ.keep {m:Option Mv} (h:jQ w F A i m) (k1:∀b cur,A.mp i=some b->w.heap[b]?=some (am cur 67 (0,0))->w'.heap[b]?=w.heap[b]?) (k2:∀b cur,(A.pv i).ownBlock=some b->w.heap[b]?=some (am cur 44 (0,0))->w'.heap[b]?=w.heap[b]?) (k3:∀b cur,(A.cv i).ownBlock=some b->w.heap[b]?=some (am cur 74 (0,0))->w'.heap[b]?=w.heap[b]?):jQ w' F A i m:=by
 cases m with
 |none=>exact h
 |some m=>
  obtain⟨g,h1,h2,h3,h4,h5,h6,h7⟩:=h;refine⟨g,h1,h2,(k1 g _ h1 h3).trans h3,h4.block λb hb=>?_,h5.block λb hb=>?_,h6,h7⟩
  ·obtain⟨c,hc⟩:=jo.ty h4 hb;exact k2 b _ hb hc
  ·obtain⟨c,hc⟩:=jo.ty h5 hb;exact k3 b _ hb hc
theorem jg.put (h:jg w F A s) (hn:n<4) (hb:But (· =A.mb n) w w') (hm:jf w' (A.mb n) X):jg w' F A {s with kv:=lG s.kv n X}:=by
 have no:∀(b:Nat) (cur:Array ah) (ty:aP),w.heap[b]?=some (am cur ty (0,0))->w'.heap[b]?=w.heap[b]?:=λb cur ty eG=>hb.keep b (yc eG).1 (j4 (h.mb n hn).2 eG);refine⟨⟨h.cl.1,(no _ _ _ h.cl.2).trans h.cl.2⟩,λi hi=>⟨(h.db i hi).1,(no _ _ _ (h.db i hi).2).trans (h.db i hi).2⟩,λi hi=>⟨(h.mb i hi).1,?_⟩,h.mbi,λi hi=>(h.mv i hi).keep (λb cur _ eG=>no b cur _ eG) (λb cur _ eG=>no b cur _ eG) (λb cur _ eG=>no b cur _ eG),h.mpi,h.cvi,h.stg.keep (λb cur ty eG _=>no b cur ty eG) (λb ⟨es,ck,eG⟩ hw=>hb.keep b (yc eG).1 λe=>hw.elim (λe2=>h.smb n hn (e.symm.trans e2)) λ⟨x,y,hx,hy,hz,e2⟩=>(h.stg.n x y hx hy hz).2 n hn (e.symm.trans e2)) (λ_ h=>h) rfl rfl rfl,h.smb⟩;show jf w' (A.mb i) (lG s.kv n X i);unfold lG;split
 ·rename_i e;subst e;exact hm
 ·rename_i e;exact(h.mb i hi).2.block (hb.keep _ (h.mb i hi).2.lt λe2=>e (h.mbi i n hi hn e2))
theorem jg.chg {x:Nat} {m:Mv} {fI:List Chg} {cv':ah} (h:jg w F A s) (hn:n<4) (qQ:A.mp n=some x) (eB:s.mv n=some m) (hx:MX x n (A.pv n) (A.cv n) (A.ld n) m w) (hb:But (ChB (A.mb n) x (A.cv n)) w w') (hm:jf w' (A.mb n) X)
  (h4:MX x n (A.pv n) cv' (A.ld n) {m with cs:=fI} w') (hc:∀b,cv'.ownBlock=some b->(A.cv n).ownBlock=some b\/w.heap.size<=b):
  jg w' (λb=>F b\/w.heap.size<=b) {A with cv:=qg A.cv n cv'} {s with kv:=lG s.kv n X,mv:=qg s.mv n (some {m with cs:=fI})}:=by
 have lt:∀{b:Nat} {o:Obj},w.heap[b]?=some o->b<w.heap.size:=λhb=>(yc hb).1;have Kk:∀b,(A.cv n).ownBlock=some b->∃cur,w.heap[b]?=some (am cur 74 (0,0)):=λb hb=>jo.ty hx.r hb;have gJ:∀(b:Nat) (cur:Array ah) (ty:aP),w.heap[b]?=some (am cur ty (0,0))->ty≠67->ty≠74->w'.heap[b]?=w.heap[b]?:=λb cur ty eG n1 n2=>hb.keep b (lt eG) (by
  rintro(e|e|e)
  ·exact j4 (h.mb n hn).2 eG e
  ·rw[e,hx.b]at eG;have e2:=xoi eG;injection e2 with _ e3;exact n1 e3.symm
  ·obtain⟨c,hc⟩:=Kk b e;rw[hc]at eG;have e2:=xoi eG;injection e2 with _ e3
   exact n2 e3.symm)
 have lZ:∀b,(∃es ck,w.heap[b]?=some (Obj.map es ck))->b≠A.mb n->w'.heap[b]?=w.heap[b]?:=λb ⟨es,ck,eG⟩ eD=>hb.keep b (lt eG) (by
  rintro(e|e|e)
  ·exact eD e
  ·rw[e,hx.b]at eG;cases eG
  ·obtain⟨c,hc⟩:=Kk b e
   rw[hc]at eG;cases eG)
 refine⟨⟨.inl h.cl.1,?_⟩,λi hi=>⟨.inl (h.db i hi).1,(gJ _ _ _ (h.db i hi).2 (by decide) (by decide)).trans (h.db i hi).2⟩,λi hi=>⟨.inl (h.mb i hi).1,?_⟩,h.mbi,λi hi=>?_,h.mpi,λi j g hi hj h1 h2=>?_,h.stg.keep (λb cur ty eG ht=>gJ b cur ty eG (by rcases ht with rfl|rfl<;>decide) (by rcases ht with rfl|rfl<;>decide)) (λb eG hw=>lZ b eG λe=>hw.elim (λe2=>h.smb n hn (e.symm.trans e2)) λ⟨x,y,hx,hy,hz,e2⟩=>(h.stg.n x y hx hy hz).2 n hn (e.symm.trans e2)) (λ_ h=>.inl h) rfl rfl rfl,h.smb⟩
 ·exact(gJ _ _ _ h.cl.2 (by decide) (by decide)).trans h.cl.2
 ·show jf w' (A.mb i) (lG s.kv n X i);unfold lG;split
  ·rename_i e;subst e;exact hm
  ·rename_i e;obtain⟨es,ck,eG,_⟩:=(h.mb i hi).2;exact(h.mb i hi).2.block (lZ _ ⟨es,ck,eG⟩ λe2=>e (h.mbi i n hi hn e2))
 ·show jQ w' _ _ i (qg s.mv n _ i);by_cases e:i=n
  ·subst e;rw[show qg s.mv i (some {m with cs:=fI}) i=some {m with cs:=fI} by unfold qg;rw[if_pos rfl]];have h0:=h.mv i hi;rw[eB]at h0;obtain⟨g,z1,z2,z3,z4,z5,z6,z7⟩:=h0;rw[qQ]at z1;cases z1;refine⟨x,qQ,.inl z2,?_,?_,?_,λb hb=>.inl (z6 b hb),λb hb=>?_⟩
   ·rw[h4.b];show _=some (am (qf i (A.pv i) (qg A.cv i cv' i) (A.ld i) _) _ _);rw[show qg A.cv i cv' i=cv' by unfold qg;rw[if_pos rfl]]
   ·exact z4.block λb hb=>by
     obtain⟨c,hc⟩:=jo.ty z4 hb;exact gJ b c _ hc (by decide) (by decide)
   ·show pJ w' (qg A.cv i cv' i) fI;rw[show qg A.cv i cv' i=cv' by unfold qg;rw[if_pos rfl]];exact h4.r
   ·have hb:cv'.ownBlock=some b:=by
     have:qg A.cv i cv' i=cv':=by unfold qg;rw[if_pos rfl]
     rw[<-this];exact hb
    exact(hc b hb).imp (z7 b) id
  ·rw[show qg s.mv n (some {m with cs:=fI}) i=s.mv i by unfold qg;rw[if_neg e]];have hA:qg A.cv n cv' i=A.cv i:=by unfold qg;rw[if_neg e]
   have h1:jQ w' (λb=>F b\/w.heap.size<=b) A i (s.mv i):=((h.mv i hi).keep (λb cur o eG=>hb.keep b (lt eG) (by
     rintro(e2|e2|e2)
     ·exact j4 (h.mb n hn).2 eG e2
     ·exact e (h.mpi i n b hi hn o (by rw[qQ,e2]))
     ·obtain⟨c,hc⟩:=Kk b e2;rw[hc]at eG;have e3:=xoi eG;injection e3 with _ e4;exact absurd e4 (by decide))) (λb cur o eG=>gJ b cur _ eG (by decide) (by decide)) (λb cur o eG=>hb.keep b (lt eG) (by
     rintro(e2|e2|e2)
     ·exact j4 (h.mb n hn).2 eG e2
     ·rw[e2,hx.b]at eG;have e3:=xoi eG;injection e3 with _ e4;exact absurd e4 (by decide)
     ·exact e (h.cvi i n b hi hn o e2)))).mono λb hb=>.inl hb
   ·cases iM:s.mv i with
    |none=>rw[iM]at h1;exact⟨h1.1,by show(qg A.cv n cv' i).ownBlock=none;rw[hA];exact h1.2⟩
    |some mi=>
     rw[iM]at h1;obtain⟨g,z1,z2,z3,z4,z5,z6,z7⟩:=h1;exact⟨g,z1,z2,by rw[z3];show _=some (am (qf i (A.pv i) (qg A.cv n cv' i) (A.ld i) _) _ _);rw[hA],z4,by show pJ w' (qg A.cv n cv' i) _;rw[hA];exact z5,z6,λb hb=>z7 b (by have hb:(qg A.cv n cv' i).ownBlock=some b:=hb;rw[hA]at hb;exact hb)⟩
 ·have h1:(qg A.cv n cv' i).ownBlock=some g:=h1;have h2:(qg A.cv n cv' j).ownBlock=some g:=h2;have ltc:∀i,i<4->∀b,(A.cv i).ownBlock=some b->b<w.heap.size:=λi hi b hb=>by
   have h0:=h.mv i hi;cases iM:s.mv i with
   |none=>rw[iM]at h0;rw[h0.2]at hb;cases hb
   |some mi=>
    rw[iM]at h0;obtain⟨q,z1,z2,z3,z4,z5,z6,z7⟩:=h0;exact jo.lt z5 hb
  unfold qg at h1 h2;by_cases e1:i=n
  ·by_cases e2:j=n
   ·omega
   ·rw[if_pos e1]at h1;rw[if_neg e2]at h2;rcases hc g h1 with h3|h3
    ·exact absurd (h.cvi n j g hn hj h3 h2) λe=>e2 e.symm
    ·have:=ltc j hj g h2;omega
  ·rw[if_neg e1]at h1;by_cases e2:j=n
   ·rw[if_pos e2]at h2;rcases hc g h2 with h3|h3
    ·exact absurd (h.cvi i n g hi hn h1 h3) e1
    ·have:=ltc i hi g h1;omega
   ·rw[if_neg e2]at h2;exact h.cvi i j g hi hj h1 h2
end
end Go.Proofs.Ytkpekiajdlolnaa
namespace Go.Proofs.Ytkpekiajdlolnaa.Ph
open Go.Conc Go.ConcN Go.RowKit Go.Maps Go.Conc.Lib Go Sim
def jv (w:ae) (F:Nat->Prop) (A:PA) (v:ah) (s':St) (e:Ending) (w':ae):Prop:=e=.returned v/\∃A':PA,A'.cl=A.cl/\jg w' (λb=>F b\/w.heap.size<=b) A' s'/\But F w w'
def chE (s:St) (k v:ByteArray) (g:Bool):Int:=if mr k.data.toList then(if sO (s.mv (jw k.data.toList))then(if 12<v.data.toList.length then 3 else 5)else qG (s.kv (jw k.data.toList)) k.data.toList v.data.toList g)else 2
def chS (s:St) (k v:ByteArray) (g:Bool):St:=if mr k.data.toList&&!sO (s.mv (jw k.data.toList))then{s with kv:=lG s.kv (jw k.data.toList) (chL (s.kv (jw k.data.toList)) k.data.toList v.data.toList g),mv:=qg s.mv (jw k.data.toList) ((s.mv (jw k.data.toList)).map λm=>{m with cs:=csL (s.kv (jw k.data.toList)) m.cs k v g})}else s
section
variable {w w':ae} {F:Nat->Prop} {A:PA} {s:St}
theorem jv.idle {v:ah} (h:jg w F A s) (hb:ay w.heap.size w w'):jv w F A v s (.returned v) w':=⟨rfl,A,rfl,(h.below hb).mono λ_ h=>.inl h,But.of_below hb⟩
theorem Rj (h:jg w F A s) (hl:∀i,i<4->(s.kv i).length<=12) (gD:∀i,i<4->∀m,s.mv i=some m->m.cs.length<=1073741820) (k v:ByteArray) (g:Bool) (hs:k.size<=aR):
  ao prog 22 #[.pointer (some ⟨A.cl,0,none⟩),.agg #[.string k,.string v,.bool g]] w (jv w F A (.int .i64 (chE s k v g)) (chS s k v g)):=by
 cases hk:mr k.data.toList
 ·refine(X7 k v g hk hs).mono λe w' ⟨h1,h2⟩=>?_;unfold chE chS;rw[hk,h1];exact .idle h h2
 ·have hn:=Rq k.data.toList;obtain⟨n,wZ⟩:∃n,jw k.data.toList=n:=⟨_,rfl⟩
  unfold chE chS;rw[wZ]at hn;rw[hk,wZ];have hp:=h.part n hn;have hm:=h.mv n hn;cases eB:s.mv n with
  |none=>
   rw[eB]at hm;rw[hm.1]at hp;refine(X6 k v g n hn hk wZ hs (hl n hn) hp).mono λe w' ⟨h1,h2,h3⟩=>?_;have h4:=(h.put hn h3 h2).mono (F':=λb=>F b\/w.heap.size<=b) λ_ h=>.inl h;refine⟨h1,A,rfl,?_,h3.mono λb e=>e▸(h.mb n hn).1⟩;have e:qg s.mv n (Option.map (λm:Mv=>{m with cs:=csL (s.kv n) m.cs k v g}) none)=s.mv:=by
    funext i;unfold qg;split
    ·rename_i e;rw[e,eB];rfl
    ·rfl
   show jg w' _ A {s with kv:=_,mv:=qg s.mv n (Option.map (λm:Mv=>{m with cs:=csL (s.kv n) m.cs k v g}) none)};rw[e];exact h4
  |some m=>
   rw[eB]at hm;obtain⟨x,z1,z2,z3,z4,z5,z6,z7⟩:=hm;rw[z1]at hp;have hx:MX x n (A.pv n) (A.cv n) (A.ld n) m w:=⟨z3,z5⟩
   cases fT:m.sealed
   ·have lK:(A.cv n).ownBlock≠some A.cl:=λe=>by
     obtain⟨c,hc⟩:=jo.ty z5 e;rw[h.cl.2]at hc;have e2:=xoi hc;injection e2 with _ e3;exact absurd e3 (by decide)
    refine(YB k v g n hn hk wZ hs (hl n hn) hp hx fT (gD n hn m eB) lK).mono λe w' ⟨h1,h2,⟨cv',h3,h4⟩,h5⟩=>?_;rw[show sO (some m)=false from fT];refine⟨h1,{A with cv:=qg A.cv n cv'},rfl,h.chg hn z1 eB hx h5 h2 h3 h4,h5.mono λb e=>?_⟩;rcases e with e|e|e
    ·exact e▸(h.mb n hn).1
    ·exact e▸z2
    ·exact z7 b e
   ·refine(YQ k v g n hn hk wZ hs (hl n hn) hp hx fT).mono λe w' ⟨h1,h2⟩=>?_;rw[show sO (some m)=true from fT,h1];exact .idle h h2
theorem ja0 (h:jg w F A s) (hl:∀i,i<4->(s.kv i).length<=12) (gD:∀i,i<4->∀m,s.mv i=some m->m.cs.length<=1073741820) (k v:ByteArray) (hs:k.size<=aR):
  ao prog 9 #[.pointer (some ⟨A.cl,0,none⟩),.string k,.string v] w (jv w F A (.int .i64 (chE s k v false)) (chS s k v false)):=by
 have hc:=Rj h hl gD k v false hs;generalize chS s k v false=s' at*;generalize chE s k v false=c at*;clear h hl gD;go_enter func9,ntmps9;go_wp2_with (go_at_call 22;refine hc.mono ?_;rintro e w' ⟨rfl,h2⟩;have H2:=Hd h2;clear h2)
 go_ret;exact⟨rfl,H2.o⟩
theorem WJ (h:jg w F A s) (hl:∀i,i<4->(s.kv i).length<=12) (gD:∀i,i<4->∀m,s.mv i=some m->m.cs.length<=1073741820) (k:ByteArray) (hs:k.size<=aR):
  ao prog 10 #[.pointer (some ⟨A.cl,0,none⟩),.string k] w (jv w F A (.int .i64 (chE s k ⟨#[]⟩ true)) (chS s k ⟨#[]⟩ true)):=by
 have hc:=Rj h hl gD k ⟨#[]⟩ true hs;generalize chS s k ⟨#[]⟩ true=s' at*;generalize chE s k ⟨#[]⟩ true=c at*;clear h hl gD;go_enter func10,ntmps10;go_wp2_with (go_at_call 22;refine hc.mono ?_;rintro e w' ⟨rfl,h2⟩;have H2:=Hd h2;clear h2)
 go_ret;exact⟨rfl,H2.o⟩
end
end Go.Proofs.Ytkpekiajdlolnaa.Ph
namespace Go.Proofs.Ytkpekiajdlolnaa
open Go.RowKit Go.Maps
section
variable {w w':ae} {F F':Nat->Prop} {A:PA} {s:St} {n:Nat}
theorem jg.turn (h:jg w F A s) (A':PA) (s':St) (hb:But (· =A.cl) w w') (lK:w'.heap[A.cl]?=some (.cells (je A' s') 60 (0,0))) (e1:A'.cl=A.cl) (e2:A'.db=A.db) (e3:A'.mb=A.mb) (e4:A'.sm=A.sm/\A'.sP=A.sP) (e5:s'.kv=s.kv) (e6:s'.sg=s.sg)
  (eB:∀i,i<4->(∀(b:Nat) (cur:Array ah) (ty:aP),w.heap[b]?=some (am cur ty (0,0))->ty≠60->w'.heap[b]?=w.heap[b]?)->jQ w' F' A' i (s'.mv i)) (hF:∀b,F b->F' b)
  (qQ:∀i j g,i<4->j<4->A'.mp i=some g->A'.mp j=some g->i=j) (Ur:∀i j g,i<4->j<4->(A'.cv i).ownBlock=some g->(A'.cv j).ownBlock=some g->i=j):jg w' F' A' s':=by
 have lt:∀{b:Nat} {o:Obj},w.heap[b]?=some o->b<w.heap.size:=λhb=>(yc hb).1;have gJ:∀(b:Nat) (cur:Array ah) (ty:aP),w.heap[b]?=some (am cur ty (0,0))->ty≠60->w'.heap[b]?=w.heap[b]?:=λb cur ty eG n1=>hb.keep b (lt eG) λe=>by
  rw[e,h.cl.2]at eG;have e2:=xoi eG;injection e2 with _ e3;exact n1 e3.symm
 have lZ:∀b,(∃es ck,w.heap[b]?=some (Obj.map es ck))->w'.heap[b]?=w.heap[b]?:=λb ⟨es,ck,eG⟩=>hb.keep b (lt eG) λe=>by
  rw[e,h.cl.2]at eG;cases eG
 refine⟨⟨hF _ (e1▸h.cl.1),e1▸lK⟩,λi hi=>?_,λi hi=>?_,by rw[e3];exact h.mbi,λi hi=>eB i hi gJ,qQ,Ur,?_,by rw[e3,e4.1];exact h.smb⟩
 ·rw[e2,e3];exact⟨hF _ (h.db i hi).1,(gJ _ _ _ (h.db i hi).2 (by decide)).trans (h.db i hi).2⟩
 ·rw[e3,e5];obtain⟨es,ck,eG,_⟩:=(h.mb i hi).2;exact⟨hF _ (h.mb i hi).1,(h.mb i hi).2.block (lZ _ ⟨es,ck,eG⟩)⟩
 ·rw[e6];exact h.stg.keep (λb cur ty eG ht=>gJ b cur ty eG (by rcases ht with rfl|rfl<;>decide)) (λb eG _=>lZ b eG) hF e4.1 e4.2 e3
theorem jg.drop (h:jg w F A s) (hn:n<4):jg (w.setCell ⟨A.cl,1+n*3+2,none⟩ (.pointer none)) F {A with mp:=qg A.mp n none,cv:=qg A.cv n (.slice none 0 0)} {s with mv:=qg s.mv n none}/\But F w (w.setCell ⟨A.cl,1+n*3+2,none⟩ (.pointer none)):=by
 have hs:=xhs w A.cl (1+n*3+2) _ _ (.pointer none) h.cl.2;have hb:But (· =A.cl) w (w.setCell ⟨A.cl,1+n*3+2,none⟩ (.pointer none)):=But.setCell (B:=(· =A.cl)) (But.refl _ _) rfl _ _;refine⟨h.turn _ _ hb ?_ rfl rfl rfl ⟨rfl,rfl⟩ rfl rfl (λi hi no=>?_) (λ_ h=>h) (λi j g hi hj h1 h2=>?_) (λi j g hi hj h1 h2=>?_),hb.mono λb e=>e▸h.cl.1⟩
 ·rw[hs];match n,hn with
  |0,_|1,_|2,_|3,_=>rfl
 ·show jQ _ F _ i (qg s.mv n none i);by_cases e:i=n
  ·subst e;rw[qp];exact⟨qp ..,by show(qg A.cv i (.slice none 0 0) i).ownBlock=none;rw[qp];rfl⟩
  ·rw[qj _ _ e];have h0:=(h.mv i hi).keep (w':=w.setCell ⟨A.cl,1+n*3+2,none⟩ (.pointer none)) (λb c _ hb=>no b c _ hb (by decide)) (λb c _ hb=>no b c _ hb (by decide)) (λb c _ hb=>no b c _ hb (by decide));have e1:qg A.mp n none i=A.mp i:=qj _ _ e;have e2:qg A.cv n (.slice none 0 0) i=A.cv i:=qj _ _ e;cases hm:s.mv i with
   |none=>rw[hm]at h0;exact⟨e1.trans h0.1,by show(qg A.cv n (.slice none 0 0) i).ownBlock=none;rw[e2];exact h0.2⟩
   |some m=>
    rw[hm]at h0;obtain⟨g,z1,z2,z3,z4,z5,z6,z7⟩:=h0;refine⟨g,e1.trans z1,z2,?_,z4,?_,z6,?_⟩
    ·rw[z3];show _=some (am (qf i (A.pv i) (qg A.cv n (.slice none 0 0) i) (A.ld i) m) _ _);rw[e2]
    ·show pJ _ (qg A.cv n (.slice none 0 0) i) m.cs;rw[e2];exact z5
    ·intro b hb;have hb:(qg A.cv n (.slice none 0 0) i).ownBlock=some b:=hb;rw[e2]at hb;exact z7 b hb
 ·have h1:qg A.mp n none i=some g:=h1;have h2:qg A.mp n none j=some g:=h2;by_cases e1:i=n
  ·subst e1;rw[qp]at h1;cases h1
  ·by_cases e2:j=n
   ·subst e2;rw[qp]at h2;cases h2
   ·rw[qj _ _ e1]at h1;rw[qj _ _ e2]at h2;exact h.mpi i j g hi hj h1 h2
 ·have h1:(qg A.cv n (.slice none 0 0) i).ownBlock=some g:=h1;have h2:(qg A.cv n (.slice none 0 0) j).ownBlock=some g:=h2;by_cases e1:i=n
  ·subst e1;rw[qp]at h1;cases h1
  ·by_cases e2:j=n
   ·subst e2;rw[qp]at h2;cases h2
   ·rw[qj _ _ e1]at h1;rw[qj _ _ e2]at h2;exact h.cvi i j g hi hj h1 h2
def movE (s:St) (k:Int):Int:=if k<0\/3<k then 8 else match s.mv k.toNat with
 |none=>11
 |some _=>0
theorem RF (k:Int) (hk:k<0\/3<k) (yR: -9223372036854775808<=k/\k<=9223372036854775807) (cl:Nat):ao prog 29 #[.pointer (some ⟨cl,0,none⟩),.int .i64 k] w λe w'=>e=.returned (.tuple #[.pointer none,.int .i64 8])/\w'=w:=by
 rcases aL k 0 with h2|h2
 ·have g1:decide (k<0)=true:=xdt h2;go_enter func29,ntmps29;go_wp2;go_ret2;exact⟨rfl,rfl⟩
 ·have g1:decide (k<0)=false:=xdf (by omega);have g2:decide (4<=k)=true:=xdt (by omega);go_enter func29,ntmps29;go_wp2;go_ret2;exact⟨rfl,rfl⟩
theorem BR (h:jg w F A s) (hn:n<4):ao prog 29 #[.pointer (some ⟨A.cl,0,none⟩),.int .i64 n] w λe w'=>(match s.mv n with
  |none=>e=.returned (.tuple #[.pointer none,.int .i64 11])
  |some _=>e=.returned (.tuple #[.pointer (some ⟨A.cl,1+n*3,none⟩),.int .i64 0]))/\w'=w:=by
 have Cc:((n:Int)<4):=by omega
 have g1:decide ((n:Int)<0)=false:=xdf (by omega);have g2:decide ((4:Int)<=n)=false:=xdf (by omega);have c:=(h.part n hn).v;have hm:=h.mv n hn;cases eB:s.mv n with
 |none=>
  rw[eB]at hm;rw[hm.1]at c;have c:w.cell? ⟨A.cl,1+n*3+2,none⟩=some (.pointer none):=c;clear hm h;go_enter func29,ntmps29;go_wp2;go_ret2;exact⟨rfl,rfl⟩
 |some m=>
  rw[eB]at hm;obtain⟨x,z1,_⟩:=hm;rw[z1]at c;have c:w.cell? ⟨A.cl,1+n*3+2,none⟩=some (.pointer (some ⟨x,0,none⟩)):=c;clear z1 h;go_enter func29,ntmps29;go_wp2;go_ret2;exact⟨rfl,rfl⟩
end
end Go.Proofs.Ytkpekiajdlolnaa
namespace Go.Proofs.Ytkpekiajdlolnaa.Ph
open Go.Conc Go.ConcN Go.RowKit Go.Maps Go.Conc.Lib Go Sim
def abE (s:St) (k:Int):Int:=if k<0\/3<k then 8 else match s.mv k.toNat with
 |none=>11
 |some m=>if m.sealed then 12 else 0
def abS (s:St) (k:Int):St:=if k<0\/3<k then s else match s.mv k.toNat with
 |none=>s
 |some m=>if m.sealed then s else{s with mv:=qg s.mv k.toNat none}
section
variable {w w':ae} {F:Nat->Prop} {A:PA} {s:St}
theorem q1i (h:jg w F A s) (k:Int) (yR: -9223372036854775808<=k/\k<=9223372036854775807):ao prog 13 #[.pointer (some ⟨A.cl,0,none⟩),.int .i64 k] w (jv w F A (.int .i64 (abE s k)) (abS s k)):=by
 by_cases hk:k<0\/3<k
 ·have HE:Hid (abE s k=8/\abS s k=s):=Hd ⟨by unfold abE;rw[if_pos hk],by unfold abS;rw[if_pos hk]⟩;have H:=Hd h;rw[HE.1,HE.2];clear h;go_enter func13,ntmps13;go_wp2_with (go_at_call 29;refine(RF k hk yR A.cl).mono ?_;rintro e w' ⟨rfl,rfl⟩)
  go_ret;exact .idle H.o (zi _ _)
 ·obtain⟨n,rfl⟩:∃n:Nat,k=n:=⟨k.toNat,by omega⟩
  have hn:n<4:=by omega
  have iM:=BR h hn;have hm:=h.mv n hn;have hv:=(h.part n hn).v;have gD:=h.cells (1+n*3+2) _ (FO A s n hn).2.2;cases eB:s.mv n with
  |none=>
   have HE:Hid (abE s (n:Int)=11/\abS s (n:Int)=s):=Hd ⟨by unfold abE;rw[if_neg hk,ac,eB],by unfold abS;rw[if_neg hk,ac,eB]⟩;have H:=Hd h;rw[HE.1,HE.2];rw[eB]at iM;clear h hm hv gD eB hk;go_enter func13,ntmps13;go_wp2_with (go_at_call 29;refine iM.mono ?_;rintro e w' ⟨rfl,rfl⟩)
   go_ret;exact .idle H.o (zi _ _)
  |some m=>
   rw[eB]at hm iM;obtain⟨x,z1,z2,z3,_⟩:=hm;rw[z1]at hv;replace hv:w.cell? ⟨A.cl,1+n*3+2,none⟩=some (.pointer (some ⟨x,0,none⟩)):=hv;have hf:=gD.2;have fT:w.cell? ⟨x,12,none⟩=some (.bool m.sealed):=by simp[aa,z3,qf]
   have HE:Hid (abE s (n:Int)=(if m.sealed then 12 else 0)/\abS s (n:Int)=if m.sealed then s else{s with mv:=qg s.mv n none}):=Hd ⟨by unfold abE;rw[if_neg hk,ac,eB],by unfold abS;rw[if_neg hk,ac,eB]⟩;have H:=Hd h;rw[HE.1,HE.2];clear h gD eB hk z1 z2 z3;cases hs:m.sealed
   ·rw[hs]at fT;rw[if_neg (by decide),if_neg (by decide)];clear hs;go_enter func13,ntmps13;go_wp2_with (go_at_call 29;refine iM.mono ?_;rintro e w' ⟨rfl,rfl⟩)
    go_ret;exact⟨rfl,{A with mp:=qg A.mp n none,cv:=qg A.cv n (.slice none 0 0)},rfl,(H.drop hn).1.mono λ_ h=>.inl h,(H.drop hn).2⟩
   ·rw[hs]at fT;rw[if_pos rfl,if_pos rfl];clear hs;go_enter func13,ntmps13;go_wp2_with (go_at_call 29;refine iM.mono ?_;rintro e w' ⟨rfl,rfl⟩)
    go_ret;exact .idle H.o (zi _ _)
end
end Go.Proofs.Ytkpekiajdlolnaa.Ph
namespace Go.Proofs.Ytkpekiajdlolnaa
open Go.RowKit Go.Maps
def bgM (s:St) (n to:Nat):Mv:=⟨s.id+1,s.ow n,to,s.kv n,[],[],0,0,0,false⟩
def bgS (s:St) (n to:Nat):St:={s with id:=s.id+1,mv:=qg s.mv n (some (bgM s n to))}
def mvE (s:St) (k to:Int):Int:=if k<0\/3<k then 8 else if to<0\/s.hosts<=to then 1 else if(s.mv k.toNat).isSome then 10 else if(s.ow k.toNat:Int)=to then 9 else 0
def mvS (s:St) (k to:Int):St:=if mvE s k to=0 then bgS s k.toNat to.toNat else s
section
variable {w w':ae} {F:Nat->Prop} {A:PA} {s:St} {n:Nat}
def bgA (A:PA) (n g:Nat) (pv:ah):PA:={A with mp:=qg A.mp n (some g),pv:=qg A.pv n pv,cv:=qg A.cv n (.slice none 0 0),ld:=qg A.ld n ⟨#[]⟩}
theorem jQ.same {C:PA} {m:Option Mv} (h:jQ w F A i m) (e1:C.mp i=A.mp i) (e2:C.pv i=A.pv i) (e3:C.cv i=A.cv i) (e4:C.ld i=A.ld i):jQ w F C i m:=by
 cases m with
 |none=>exact⟨e1.trans h.1,by rw[e3];exact h.2⟩
 |some m=>
  obtain⟨g,h1,h2,h3,h4,h5,h6,h7⟩:=h;exact⟨g,e1.trans h1,h2,by rw[e2,e3,e4];exact h3,by rw[e2];exact h4,by rw[e3];exact h5,by rw[e2];exact h6,by rw[e3];exact h7⟩
theorem jQ.Tq {m:Option Mv} (h:jQ w F A i m) (e:A.mp i=some g):g<w.heap.size:=by
 cases m with
 |none=>rw[h.1]at e;cases e
 |some m=>
  obtain⟨g',h1,h2,h3,_⟩:=h;rw[h1]at e;cases e;exact(yc h3).1
theorem Y2 (A:PA) (s:St) (n to g:Nat) (pv:ah):n<4->((je A s).setIfInBounds 14 (.int .i64 ((s.id+1:Nat):Int))).setIfInBounds (1+n*3+2) (.pointer (some ⟨g,0,none⟩))=je (bgA A n g pv) (bgS s n to):=by
 intro hn;match n,hn with
 |0,_|1,_|2,_|3,_=>rfl
theorem jg.begin {to:Nat} (h:jg w F A s) (hn:n<4) (hb:But (· =A.cl) w w') (lK:w'.heap[A.cl]?=some (.cells (je (bgA A n g pv) (bgS s n to)) 60 (0,0)))
  (hg:w'.heap[g]?=some (.cells (qf n pv (.slice none 0 0) ⟨#[]⟩ (bgM s n to)) 67 (0,0))) (lT:w.heap.size<=g) (hr:w'.ownsRow w.heap.size 44 2 pv (s.kv n).length (flat (s.kv n))):jg w' (λb=>F b\/w.heap.size<=b) (bgA A n g pv) (bgS s n to):=by
 refine h.turn (bgA A n g pv) (bgS s n to) hb lK rfl rfl rfl ⟨rfl,rfl⟩ rfl rfl (λi hi no=>?_) (λ_ h=>.inl h) (λi j q hi hj h1 h2=>?_) (λi j q hi hj h1 h2=>?_)
 ·show jQ w' _ _ i (qg s.mv n _ i);by_cases e:i=n
  ·subst e;rw[qp];have e1:(bgA A i g pv).pv i=pv:=qp ..;have e2:(bgA A i g pv).cv i=.slice none 0 0:=qp ..;have e3:(bgA A i g pv).ld i=⟨#[]⟩:=qp ..;refine⟨g,qp ..,.inr lT,by rw[e1,e2,e3];exact hg,?_,?_,λb fH=>.inr ?_,λb fH=>?_⟩
   ·rw[e1];exact jo.of hr
   ·rw[e2];exact jo.of (aZ _ 0 _ _)
   ·rw[e1]at fH;exact(hr.lt b fH).1
   ·rw[e2]at fH;cases fH
  ·rw[qj _ _ e];exact(((h.mv i hi).keep (w':=w') (λb c _ hb=>no b c _ hb (by decide)) (λb c _ hb=>no b c _ hb (by decide)) (λb c _ hb=>no b c _ hb (by decide))).mono λ_ h=>.inl h).same (qj _ _ e) (qj _ _ e) (qj _ _ e) (qj _ _ e)
 ·replace h1:qg A.mp n (some g) i=some q:=h1;replace h2:qg A.mp n (some g) j=some q:=h2;by_cases e1:i=n
  ·by_cases e2:j=n
   ·omega
   ·subst e1;rw[qp]at h1;rw[qj _ _ e2]at h2;cases h1;have:=(h.mv j hj).Tq h2;omega
  ·rw[qj _ _ e1]at h1;by_cases e2:j=n
   ·subst e2;rw[qp]at h2;cases h2;have:=(h.mv i hi).Tq h1;omega
   ·rw[qj _ _ e2]at h2;exact h.mpi i j q hi hj h1 h2
 ·replace h1:(qg A.cv n (.slice none 0 0) i).ownBlock=some q:=h1;replace h2:(qg A.cv n (.slice none 0 0) j).ownBlock=some q:=h2;by_cases e1:i=n
  ·subst e1;rw[qp]at h1;cases h1
  ·by_cases e2:j=n
   ·subst e2;rw[qp]at h2;cases h2
   ·rw[qj _ _ e1]at h1;rw[qj _ _ e2]at h2;exact h.cvi i j q hi hj h1 h2
theorem Yy (h:jg w F A s) (hn:n<4) (e:wA=w.setCell ⟨A.cl,14,none⟩ (.int .i64 ((s.id+1:Nat):Int))):
  wA.cell? ⟨A.cl,14,none⟩=some (.int .i64 ((s.id+1:Nat):Int))/\wA.cell? ⟨A.cl,1+n*3,none⟩=some (.int .i64 (s.ow n))/\wA.cell? ⟨A.cl,1+n*3+1,none⟩=some (.pointer (some ⟨A.db n,0,none⟩))/\wA.cell? ⟨A.cl,1+n*3+2,none⟩=some (ptr (A.mp n))/\wA.frozen? ⟨A.cl,1+n*3+2,none⟩=false/\wA.cell? ⟨A.db n,0,none⟩=some (.map (some (A.mb n)))/\jf wA (A.mb n) (s.kv n)/\wA.heap[A.cl]?=some (.cells ((je A s).setIfInBounds 14 (.int .i64 ((s.id+1:Nat):Int))) 60 (0,0))/\wA.heap.size=w.heap.size/\But (· =A.cl) w wA:=by
 have hs:=xhs w A.cl 14 _ _ (.int .i64 ((s.id+1:Nat):Int)) h.cl.2;have ho:∀b,b≠A.cl->wA.heap[b]?=w.heap[b]?:=λb hb=>by rw[e];exact xho w _ b _ hb
 have hd:A.db n≠A.cl:=λe2=>by
  have:=(h.db n hn).2;rw[e2,h.cl.2]at this;have e3:=xoi this;injection e3 with _ e4;exact absurd e4 (by decide)
 have hm:A.mb n≠A.cl:=λe2=>j4 (h.mb n hn).2 h.cl.2 e2.symm;rw[<-e]at hs;obtain⟨p1,p2,p3⟩:=FO A s n hn;refine⟨by simp[aa,hs,je],?_,?_,?_,by simp[au,hs],by rw[xcb (ho _ hd)];simp[aa,(h.db n hn).2],(h.mb n hn).2.block (ho _ hm),hs,by rw[e];simp,by rw[e];exact But.setCell (B:=(· =A.cl)) (But.refl _ _) rfl _ _⟩;all_goals
  simp only[aa,hs];rw[xne (by omega)]
 ·simp[p1]
 ·simp[p2,ptr]
 ·simp[p3]
theorem Xq {id ow:Int} (hn:n<4) (h8:wA.heap[A.cl]?=some (.cells ((je A s).setIfInBounds 14 (.int .i64 ((s.id+1:Nat):Int))) 60 (0,0))) (hb:ay wA.heap.size wA w1) (lT:wA.heap.size<=g)
  (hg:w1.heap[g]?=some (.cells #[.int .i64 id,.int .i64 ow,.int .i64 to,pv,.slice none 0 0,.int .u8 0,.int .i64 0,.int .i64 0,.int .i64 0,.string ⟨#[]⟩,.string ⟨#[]⟩,.int .i64 0,.bool false] 67 (0,0))) (e:w2=w1.setCell ⟨A.cl,1+n*3+2,none⟩ (.pointer (some ⟨g,0,none⟩))):
  w2.cell? ⟨A.cl,1+n*3+2,none⟩=some (.pointer (some ⟨g,0,none⟩))/\w2.cell? ⟨A.cl,14,none⟩=some (.int .i64 ((s.id+1:Nat):Int))/\w2.cell? ⟨g,5,none⟩=some (.int .u8 0)/\w2.cell? ⟨g,6,none⟩=some (.int .i64 0)/\w2.cell? ⟨g,7,none⟩=some (.int .i64 0)/\w2.cell? ⟨g,8,none⟩=some (.int .i64 0)/\w2.cell? ⟨g,9,none⟩=some (.string ⟨#[]⟩)/\(∀j,w2.frozen? ⟨g,j,none⟩=false)/\
   w2.heap[A.cl]?=some (.cells (((je A s).setIfInBounds 14 (.int .i64 ((s.id+1:Nat):Int))).setIfInBounds (1+n*3+2) (.pointer (some ⟨g,0,none⟩))) 60 (0,0))/\w2.heap[g]?=w1.heap[g]?/\g≠A.cl:=by
 have dW:=(yc h8).1;have eD:g≠A.cl:=by omega
 have h1:=(hb.block _ dW).trans h8;have hs:=xhs w1 A.cl (1+n*3+2) _ _ (.pointer (some ⟨g,0,none⟩)) h1;have ho:w2.heap[g]?=w1.heap[g]?:=by rw[e];exact xho w1 _ g _ eD
 rw[<-e]at hs;have jN:=ho.trans hg;have eT:(je A s).size=16:=rfl;refine⟨?_,?_,by simp[aa,jN],by simp[aa,jN],by simp[aa,jN],by simp[aa,jN],by simp[aa,jN],λj=>by simp[au,jN],hs,ho,eD⟩
 ·simp only[aa,hs];rw[xsl (by simp[eT];omega)];rfl
 ·simp only[aa,hs];rw[xne (by omega),xsl (by simp[eT])];rfl
theorem Xr {to:Nat} (h:jg w F A s) (hn:n<4) (mR:But (· =A.cl) w wA) (hz:wA.heap.size=w.heap.size) (hb:ay wA.heap.size wA w1) (lT:wA.heap.size<=g)
  (hg:w1.heap[g]?=some (.cells #[.int .i64 ((s.id+1:Nat):Int),.int .i64 (s.ow n),.int .i64 to,pv,.slice none 0 0,.int .u8 0,.int .i64 0,.int .i64 0,.int .i64 0,.string ⟨#[]⟩,.string ⟨#[]⟩,.int .i64 0,.bool false] 67 (0,0)))
  (hr:w1.ownsRow wA.heap.size 44 2 pv (s.kv n).length (flat (s.kv n))) (e:w2=w1.setCell ⟨A.cl,1+n*3+2,none⟩ (.pointer (some ⟨g,0,none⟩)))
  (hc:w2.heap[A.cl]?=some (.cells (((je A s).setIfInBounds 14 (.int .i64 ((s.id+1:Nat):Int))).setIfInBounds (1+n*3+2) (.pointer (some ⟨g,0,none⟩))) 60 (0,0))) (ho:w2.heap[g]?=w1.heap[g]?) (eD:g≠A.cl)
  (e3:w3=((((w2.setCell ⟨g,5,none⟩ (.int .u8 0)).setCell ⟨g,6,none⟩ (.int .i64 n)).setCell ⟨g,7,none⟩ (.int .i64 ((s.id:Int)+1))).setCell ⟨g,8,none⟩ (.int .i64 0)).setCell ⟨g,9,none⟩ (.string ⟨#[]⟩)):
  jg w3 (λb=>F b\/w.heap.size<=b) (bgA A n g pv) (bgS s n to)/\But F w w3:=by
 have k1:=xhs w2 g 5 _ _ (.int .u8 0) (ho.trans hg);have k2:=xhs _ g 6 _ _ (.int .i64 n) k1;have k3:=xhs _ g 7 _ _ (.int .i64 ((s.id:Int)+1)) k2;have k4:=xhs _ g 8 _ _ (.int .i64 0) k3;have k5:=xhs _ g 9 _ _ (.string ⟨#[]⟩) k4;have Tf:∀b,b≠g->w3.heap[b]?=w2.heap[b]?:=λb hb=>by
  rw[e3,xho _ _ _ _ hb,xho _ _ _ _ hb,xho _ _ _ _ hb,xho _ _ _ _ hb,xho _ _ _ _ hb]
 rw[<-e3]at k5;have JA:But (λb=>b=A.cl\/w.heap.size<=b) w w3:=by
  rw[e3,e];refine But.setCell (But.setCell (But.setCell (But.setCell (But.setCell (But.setCell ((mR.mono λb h=>.inl h).trans (But.of_below (B:=λb=>b=A.cl\/w.heap.size<=b) hb)) (.inl rfl) _ _) ?_ _ _) ?_ _ _) ?_ _ _) ?_ _ _) ?_ _ _;all_goals exact .inr (by omega)
 have SF:But (· =A.cl) w w3:=⟨JA.size,λb hb hn=>JA.keep b hb λx=>x.elim hn λy=>by omega,JA.os,JA.output⟩
 have oZ:w3.ownsRow w.heap.size 44 2 pv (s.kv n).length (flat (s.kv n)):=by
  rw[hz]at hr;refine zu hr λq hq=>?_;have hqg:q≠g:=λx=>by
   obtain⟨c,JZ⟩:=SV hr hq;rw[x,hg]at JZ;have e2:=xoi JZ;injection e2 with _ e4;exact absurd e4 (by decide)
  have hqc:q≠A.cl:=λx=>by
   have:=(hr.lt q hq).1;have:=h.clt;omega
  rw[Tf q hqg,e];exact xho _ _ _ _ hqc
 refine⟨h.begin hn SF ?_ (k5.trans rfl) (by omega) oZ,SF.mono λb e=>e▸h.cl.1⟩;rw[Tf A.cl λx=>eD x.symm,hc,Y2 A s n to g pv hn]
end
end Go.Proofs.Ytkpekiajdlolnaa
namespace Go.Proofs.Ytkpekiajdlolnaa.Ph
open Go.Conc Go.ConcN Go.RowKit Go.Maps Go.Conc.Lib Go Sim
section
variable {w w':ae} {F:Nat->Prop} {A:PA} {s:St} {n:Nat}
theorem QF (h:jg w F A s) (hn:n<4) (mI:wP (s.kv n)) (hL:(s.kv n).length<=12) (iK:∀p∈s.kv n,p.1.length<=aR) (to:Nat) (hid:s.id<=4611686018427387904):
  ao prog 28 #[.pointer (some ⟨A.cl,0,none⟩),.pointer (some ⟨A.cl,1+n*3,none⟩),.int .i64 n,.int .i64 to] w (jv w F A (.tuple #[]) (bgS s n to)):=by
 have c14:w.cell? ⟨A.cl,14,none⟩=some (.int .i64 s.id):=(h.cells 14 _ rfl).1;have f14:=(h.cells 14 (.int .i64 s.id) rfl).2;have H:=Hd h;have HR:=Hd (ai mI (ai hL iK));have hid2:((s.id:Int)+1<=9223372036854775807):=by omega
 clear h mI hL iK;go_enter func28,ntmps28;go_wp2;have TW:w.setCell ⟨A.cl,14,none⟩ (.int .i64 ((s.id:Int)+1))=w.setCell ⟨A.cl,14,none⟩ (.int .i64 ((s.id+1:Nat):Int)):=rfl;obtain⟨a1,a2,a3,a4,a5,a6,a7,a8,a9,oV⟩:=Yy H.o hn TW;have NM:=Hd (ai a8 (ai a9 oV));generalize w.setCell ⟨A.cl,14,none⟩ (.int .i64 ((s.id:Int)+1))=wA at*;clear TW a8 a9 oV c14 f14;change bd _ (aq 1 bg1 true) _ _ _;refine jcv (cl:=A.cl) (n:=n) (db:=A.db n) (mb:=A.mb n) (id:=s.id+1) (ow:=s.ow n) (to:=to) (L:=s.kv n) rfl rfl rfl rfl rfl a1 a2 a3 ⟨_,a4⟩ a5 a6 a7 HR.1 HR.2.1 HR.2.2 λy w1 g sa c hy uz lT hg hr=>?_;have y0:y 0=.pointer (some ⟨A.cl,0,none⟩):=hy 0 (sK (by kernel_rfl));have y1:y 1=.pointer (some ⟨A.cl,1+n*3,none⟩):=hy 1 (sK (by kernel_rfl));have y2:y 2=.int .i64 n:=hy 2 (sK (by kernel_rfl));rw[jgb,y0,y1,y2];obtain⟨w2,nu⟩:∃w2,w1.setCell ⟨A.cl,1+n*3+2,none⟩ (.pointer (some ⟨g,0,none⟩))=w2:=⟨_,rfl⟩
 rw[nu];obtain⟨d1,d2,d5,d6,d7,d8,d9,fr,z1,z2,z3⟩:=Xq hn NM.1 uz lT hg nu.symm;have HE:=Hd (λw3=>Xr (w3:=w3) H.o hn NM.2.2 NM.2.1 uz lT hg hr nu.symm z1 z2 z3);clear z1 z2 z3;clear hy y0 y1 y2 a1 a2 a3 a4 a5 a6 a7 uz lT hg hr nu;go_wp2;refine az 12 (by kernel_rfl) (by kernel_rfl) ?_;change wpStill _ _ w2.drew (λa'=>wpList _ _ _ _ a' w2.drew) _ _;simp only[aC,aX,aD,aY];repeat still_step
 refine bk ?_;go_wp2;go_end0;have HF:=Hd (HE.o _ rfl);exact⟨rfl,bgA A n g _,rfl,HF.1.below (aV (zi _ _)),HF.2.drew⟩
theorem Qe {k:Int} (hk:k<0\/3<k):mvE s k to=8/\mvS s k to=s:=by
 have h:mvE s k to=8:=by unfold mvE;rw[if_pos hk]
 exact⟨h,by unfold mvS;rw[h];rfl⟩
theorem QA {k:Int} (hk:¬(k<0\/3<k)) (ht:to<0\/s.hosts<=to):mvE s k to=1/\mvS s k to=s:=by
 have h:mvE s k to=1:=by unfold mvE;rw[if_neg hk,if_pos ht]
 exact⟨h,by unfold mvS;rw[h];rfl⟩
theorem QC (hn:n<4) (ht:¬(to<0\/s.hosts<=to)) {m:Mv} (hm:s.mv n=some m):mvE s n to=10/\mvS s n to=s:=by
 have h:mvE s n to=10:=by unfold mvE;rw[if_neg (by omega),if_neg ht,ac,hm];rfl
 exact⟨h,by unfold mvS;rw[h];rfl⟩
theorem QB (hn:n<4) (ht:¬(to<0\/s.hosts<=to)) (hm:s.mv n=none) (ho:(s.ow n:Int)=to):mvE s n to=9/\mvS s n to=s:=by
 have h:mvE s n to=9:=by unfold mvE;rw[if_neg (by omega),if_neg ht,ac,hm,if_neg (by decide),if_pos ho]
 exact⟨h,by unfold mvS;rw[h];rfl⟩
theorem Te {to:Nat} (hn:n<4) (ht:to<s.hosts) (hm:s.mv n=none) (ho:s.ow n≠to):mvE s n to=0/\mvS s n to=bgS s n to:=by
 have h:mvE s n to=0:=by unfold mvE;rw[if_neg (by omega),if_neg (by omega),ac,hm,if_neg (by decide),if_neg (by omega)]
 exact⟨h,by unfold mvS;rw[h,if_pos rfl];rfl⟩
theorem q50 (h:jg w F A s) (mI:∀i,i<4->wP (s.kv i)) (hL:∀i,i<4->(s.kv i).length<=12) (iK:∀i,i<4->∀p∈s.kv i,p.1.length<=aR) (hid:s.id<=4611686018427387904) (k to:Int) (yR: -9223372036854775808<=k/\k<=9223372036854775807) (ht2: -9223372036854775808<=to/\to<=9223372036854775807):
  ao prog 12 #[.pointer (some ⟨A.cl,0,none⟩),.int .i64 k,.int .i64 to] w (jv w F A (.int .i64 (mvE s k to)) (mvS s k to)):=by
 by_cases hk:k<0\/3<k
 ·rw[(Qe hk).1,(Qe hk).2];have H:=Hd h;clear h mI hL iK hid;rcases aL k 0 with h2|h2
  ·have g1:decide (k<0)=true:=xdt h2;go_enter func12,ntmps12;go_wp2;go_ret;exact .idle H.o (zi _ _)
  ·have g1:decide (k<0)=false:=xdf (by omega);have g2:decide (4<=k)=true:=xdt (by omega);go_enter func12,ntmps12;go_wp2;go_ret;exact .idle H.o (zi _ _)
 have c0:w.cell? ⟨A.cl,0,none⟩=some (.int .i64 s.hosts):=(h.cells 0 _ rfl).1;obtain⟨n,rfl⟩:∃n:Nat,k=n:=⟨k.toNat,by omega⟩
 have hn:n<4:=by omega
 have Cc:((n:Int)<4):=by omega
 have g1:decide ((n:Int)<0)=false:=xdf (by omega);have g2:decide ((4:Int)<=n)=false:=xdf (by omega);by_cases ht:to<0\/s.hosts<=to
 ·rw[(QA hk ht).1,(QA hk ht).2];have H:=Hd h;clear h mI hL iK hid;rcases aL to 0 with h2|h2
  ·have g3:decide (to<0)=true:=xdt h2;go_enter func12,ntmps12;go_wp2;go_ret;exact .idle H.o (zi _ _)
  ·have g3:decide (to<0)=false:=xdf (by omega);have g4:decide ((s.hosts:Int)<=to)=true:=xdt (by omega);go_enter func12,ntmps12;go_wp2;go_ret;exact .idle H.o (zi _ _)
 obtain⟨to,rfl⟩:∃q:Nat,to=q:=⟨to.toNat,by omega⟩
 have g3:decide ((to:Int)<0)=false:=xdf (by omega);have g4:decide (s.hosts<=to)=false:=xdf (by omega);have cO:=(h.cells (1+n*3) _ (FO A s n hn).1).1;have cV:=(h.part n hn).v;have hm:=h.mv n hn;cases eB:s.mv n with
 |some m=>
  rw[(QC hn ht eB).1,(QC hn ht eB).2];rw[eB]at hm;obtain⟨x,z1,_⟩:=hm;rw[z1]at cV;replace cV:w.cell? ⟨A.cl,1+n*3+2,none⟩=some (.pointer (some ⟨x,0,none⟩)):=cV;have H:=Hd h;clear h mI hL iK hid z1 eB hk ht;go_enter func12,ntmps12;go_wp2;go_ret;exact .idle H.o (zi _ _)
 |none=>
  rw[eB]at hm;rw[hm.1]at cV;replace cV:w.cell? ⟨A.cl,1+n*3+2,none⟩=some (.pointer none):=cV;by_cases ho:s.ow n=to
  ·rw[(QB hn ht eB (by omega)).1,(QB hn ht eB (by omega)).2];have H:=Hd h;rw[ho]at cO;clear h mI hL iK hid hm eB hk ht ho;go_enter func12,ntmps12;go_wp2;go_ret;exact .idle H.o (zi _ _)
  ·have g5:(s.ow n==to)=false:=by simpa using ho
   have hb:=QF h hn (mI n hn) (hL n hn) (iK n hn) to hid;rw[(Te hn (by omega) eB ho).1,(Te hn (by omega) eB ho).2];have HB:=Hd hb;clear h mI hL iK hid hm eB hk ht ho hb;go_enter func12,ntmps12;go_wp2_with (go_at_call 28;refine HB.mono ?_;rintro e w' ⟨rfl,h2⟩;have H2:=Hd h2;clear h2)
   go_ret;exact⟨rfl,H2.o⟩
end
end Go.Proofs.Ytkpekiajdlolnaa.Ph
namespace Go.Proofs.Ytkpekiajdlolnaa
open Go.RowKit Go.Maps
def cat (L:Nat->KV) (f:Bs×Bs->Bool):Nat->KV
 |0=>[]
 |i+1=>cat L f i++(L i).filter f
section
variable {w:ae} {ml sb:Nat} {lv:Nat->ah} {mp:Nat->Option Addr} {L:Nat->KV} {f:Bs×Bs->Bool} {most i j:Nat} {out:ah}
end
def nxM (n:Nat) (m:Mv):Mv:={m with kind:=1,sent:=(Ph.frB 1 n m.id 0 ⟨#[]⟩).data.toList}
def nxV (s:St) (k:Int):Bs:=if k<0\/3<k then[]else match s.mv k.toNat with
 |none=>[]
 |some m=>if m.sent.isEmpty then(nxM k.toNat m).sent else m.sent
def nxE (s:St) (k:Int):Int:=if k<0\/3<k then 8 else match s.mv k.toNat with
 |none=>11
 |some _=>0
section
variable {w w':ae} {F:Nat->Prop} {A:PA} {s:St} {n x:Nat}
theorem ku {a b:Array ah} {t u:aP} {p q:Nat×Nat} (h:some (am a t p)=some (am b u q)):t=u:=by
 have e:=xoi h;injection e
theorem jg.mvb {m m':Mv} {ld':ByteArray} (h:jg w F A s) (hn:n<4) (eB:s.mv n=some m) (qQ:A.mp n=some x) (hb:But (· =x) w w') (hx:w'.heap[x]?=some (.cells (qf n (A.pv n) (A.cv n) ld' m') 67 (0,0))) (e1:m'.ps=m.ps) (e2:m'.cs=m.cs):
  jg w' F {A with ld:=qg A.ld n ld'} {s with mv:=qg s.mv n (some m')}:=by
 have h0:=h.mv n hn;rw[eB]at h0;obtain⟨g,z1,z2,z3,z4,z5,z6,z7⟩:=h0;rw[qQ]at z1;cases z1;have lt:∀{b:Nat} {o:Obj},w.heap[b]?=some o->b<w.heap.size:=λhb=>(yc hb).1;have gJ:∀(b:Nat) (c:Array ah) (ty:aP),w.heap[b]?=some (am c ty (0,0))->ty≠67->w'.heap[b]?=w.heap[b]?:=λb c ty eG n1=>hb.keep b (lt eG) λe=>by
  rw[e,z3]at eG;exact n1 (ku eG).symm
 have lZ:∀b,(∃es ck,w.heap[b]?=some (Obj.map es ck))->w'.heap[b]?=w.heap[b]?:=λb ⟨es,ck,eG⟩=>hb.keep b (lt eG) λe=>by
  rw[e,z3]at eG;cases eG
 refine⟨⟨h.cl.1,(gJ _ _ _ h.cl.2 (by decide)).trans h.cl.2⟩,λi hi=>⟨(h.db i hi).1,(gJ _ _ _ (h.db i hi).2 (by decide)).trans (h.db i hi).2⟩,λi hi=>⟨(h.mb i hi).1,?_⟩,h.mbi,λi hi=>?_,h.mpi,h.cvi,h.stg.keep (λb cur ty eG ht=>gJ b cur ty eG (by rcases ht with rfl|rfl<;>decide)) (λb eG _=>lZ b eG) (λ_ h=>h) rfl rfl rfl,h.smb⟩
 ·obtain⟨es,ck,eG,_⟩:=(h.mb i hi).2;exact(h.mb i hi).2.block (lZ _ ⟨es,ck,eG⟩)
 ·show jQ w' F _ i (qg s.mv n _ i);by_cases e:i=n
  ·subst e;rw[qp];refine⟨x,qQ,z2,?_,?_,?_,z6,z7⟩
   ·rw[hx];show _=some (am (qf i (A.pv i) (A.cv i) (qg A.ld i ld' i) m') _ _);rw[qp]
   ·rw[e1];exact z4.block λb hb=>by
     obtain⟨c,hc⟩:=jo.ty z4 hb;exact gJ b c _ hc (by decide)
   ·rw[e2];exact z5.block λb hb=>by
     obtain⟨c,hc⟩:=jo.ty z5 hb;exact gJ b c _ hc (by decide)
  ·rw[qj _ _ e];exact((h.mv i hi).keep (λb c iM eG=>hb.keep b (lt eG) λe2=>e (h.mpi i n b hi hn iM (by rw[qQ,e2]))) (λb c _ hb=>gJ b c _ hb (by decide)) (λb c _ hb=>gJ b c _ hb (by decide))).same rfl rfl rfl (qj _ _ e)
end
end Go.Proofs.Ytkpekiajdlolnaa
namespace Go.Proofs.Ytkpekiajdlolnaa.Ph
open Go.Conc Go.ConcN Go.RowKit Go.Maps Go.Conc.Lib Go Sim
section
variable {w w':ae} {F:Nat->Prop} {A:PA} {s:St} {n x:Nat}
end
end Go.Proofs.Ytkpekiajdlolnaa.Ph
namespace Go.Proofs.Ytkpekiajdlolnaa
open Go.RowKit Go.Maps
section
variable {w:ae}
def nK (w:ae):ae:=(w.alloc (.map #[] 0)).alloc (.cells #[.map (some w.heap.size)] 109)
theorem Lb:ao prog 19 #[] w λe w'=>e=.returned (.pointer (some ⟨w.heap.size+1,0,none⟩))/\w'=nK w:=by
 have M5:= @run_makeMap prog;go_enter func19,ntmps19;go_wp2;go_ret;exact⟨rfl,rfl⟩
theorem heap_alloc_new' (w:ae) (o:Obj) (h:n=w.heap.size):(w.alloc o).heap[n]?=some o:=by subst h;exact aW w o
theorem Lh {w':ae} (h:w'.heap[mb]?=some (.map #[] 0)):jf w' mb []:=by
 have h0:(({w' with heap:=#[]}:ae).alloc (.map #[] 0)).ownsMap prog 9 Rv 0 0 (DM []):=World.ownsMap_made _ _ _ _;obtain⟨es,ck,h1,F⟩:=h0;have h2:(({w' with heap:=#[]}:ae).alloc (.map #[] 0)).heap[0]?=some (.map #[] 0):=rfl;rw[h2]at h1;cases h1;exact⟨#[],0,h,F⟩
theorem jat (h:Int) (hh:h<2\/4<h) (Na: -9223372036854775808<=h/\h<=9223372036854775807):ao prog 6 #[.int .i64 h] w λe w'=>e=.returned (.tuple #[.pointer none,.int .i64 1])/\w'=w:=by
 rcases aL h 2 with h2|h2
 ·have g1:decide (h<2)=true:=by simp;omega
  go_enter func6,ntmps6;go_wp2;go_ret2;exact⟨rfl,rfl⟩
 ·have g1:decide (h<2)=false:=by simp;omega
  have g2:decide (4<h)=true:=by simp;omega
  go_enter func6,ntmps6;go_wp2;go_ret2;exact⟨rfl,rfl⟩
end
section
variable {w w':ae} {F F':Nat->Prop} {A:PA} {s:St} {n h k:Nat}
theorem But.drewN {B:Nat->Prop} (h:But B w w') (n:Nat):But B w (w'.drewN n):=⟨h.size,h.keep,h.os,h.output⟩
theorem jg.idle (p:jg w F A s) (hb:But (λ_=>False) w w'):jg w' F A s:=(p.lts.frame λb fH=>hb.keep b fH.2 λx=>x).mono λ_ h=>h.1
theorem jg.MK {B:Nat->Prop} {sP':Nat->Nat->Nat×Nat×Nat} {sg':Nat->Nat->Option Sg} (p:jg w F A s) (hb:But B w w') (hF:∀b,F b->F' b)
  (hB:∀b,B b->b<w.heap.size->(∃cur,w.heap[b]?=some (am cur 96 (0,0)))\/b=A.sm\/∃x y,x<4/\y<4/\(s.sg x y).isSome=true/\b=(A.sP x y).2.2) (hs:pV w' F' {A with sP:=sP'} sg'):jg w' F' {A with sP:=sP'} {s with sg:=sg'}:=by
 have lt:∀{b:Nat} {o:Obj},w.heap[b]?=some o->b<w.heap.size:=λhb=>(yc hb).1;have gJ:∀(b:Nat) (cur:Array ah) (ty:aP),w.heap[b]?=some (am cur ty (0,0))->ty≠96->w'.heap[b]?=w.heap[b]?:=λb cur ty eG n1=>hb.keep b (lt eG) λe=>by
  rcases hB b e (lt eG)with⟨c,e2⟩|e2|⟨x,y,hx,hy,hz,e2⟩
  ·rw[e2]at eG;exact n1 (ku eG).symm
  ·exact p.stg.m.ty eG e2
  ·obtain⟨v,hv⟩:=av.1 hz;exact j4 (p.stg.e x y v hx hy hv).2.m eG e2
 have lZ:∀i,i<4->w'.heap[A.mb i]?=w.heap[A.mb i]?:=λi hi=>hb.keep _ (p.mb i hi).2.lt λe=>by
  rcases hB _ e (p.mb i hi).2.lt with⟨c,e2⟩|e2|⟨x,y,hx,hy,hz,e2⟩
  ·exact j4 (p.mb i hi).2 e2 rfl
  ·exact p.smb i hi e2
  ·exact(p.stg.n x y hx hy hz).2 i hi e2
 refine⟨⟨hF _ p.cl.1,(gJ _ _ _ p.cl.2 (by decide)).trans p.cl.2⟩,λi hi=>⟨hF _ (p.db i hi).1,(gJ _ _ _ (p.db i hi).2 (by decide)).trans (p.db i hi).2⟩,λi hi=>⟨hF _ (p.mb i hi).1,(p.mb i hi).2.block (lZ i hi)⟩,p.mbi,λi hi=>?_,p.mpi,p.cvi,hs,p.smb⟩;exact(((p.mv i hi).keep (λb c _ hb=>gJ b c _ hb (by decide)) (λb c _ hb=>gJ b c _ hb (by decide)) (λb c _ hb=>gJ b c _ hb (by decide))).mono hF).same rfl rfl rfl rfl
theorem jg.jbj {sb db id next:Nat} (p:jg w1 F A s) (hh:h<4) (hk:k<4) (hb:But (· =A.sm) w1 w') (hm:kz w' A.sm (yh (λh k=>(s.sg h k).map λ_=>(A.sP h k).1) h k (some sb)))
  (hs:iq w' sb db mb id next false kv) (lT:w.heap.size<=sb/\w.heap.size<=db/\w.heap.size<=mb) (hold:∀b,F b->b<w.heap.size) (eT:w.heap.size<=w1.heap.size):jg w' (λb=>F b\/w.heap.size<=b) {A with sP:=λa b=>if a=h/\b=k then(sb,db,mb)else A.sP a b} {s with sg:=yh s.sg h k (some ⟨id,next,kv,false⟩)}:=by
 have old:∀a b x,a<4->b<4->s.sg a b=some x->(A.sP a b).1<w.heap.size/\(A.sP a b).2.2<w.heap.size:=λa b x ha hb hx=>⟨hold _ (p.stg.e a b x ha hb hx).1.1,hold _ (p.stg.e a b x ha hb hx).1.2.2⟩
 have olds:∀a b,a<4->b<4->(s.sg a b).isSome=true->(A.sP a b).1<w.heap.size/\(A.sP a b).2.2<w.heap.size:=λa b ha hb hz=>by
  obtain⟨v,hv⟩:=av.1 hz;exact old a b v ha hb hv
 have keep:∀b,F b->b≠A.sm->w'.heap[b]?=w1.heap[b]?:=λb hf eD=>hb.keep b (xll (hold b hf) eT) eD;refine p.MK hb (λ_ h=>.inl h) (λb e _=>.inr (.inl e)) ⟨.inl p.stg.f,?_,λa b x ha hb hx=>?_,λa b c d ha hb hc hd h1 h2 h3=>?_,λa b ha hb hz=>?_⟩
 ·have e:(λa b=>(yh s.sg h k (some ⟨id,next,kv,false⟩) a b).map λ_=>(if a=h/\b=k then(sb,db,mb)else A.sP a b).1)=yh (λh k=>(s.sg h k).map λ_=>(A.sP h k).1) h k (some sb):=by
   funext a b;unfold yh;by_cases e:a=h/\b=k
   ·simp only[if_pos e];rfl
   ·simp only[if_neg e]
  show kz w' A.sm (λa b=>(yh s.sg h k (some ⟨id,next,kv,false⟩) a b).map λ_=>(if a=h/\b=k then(sb,db,mb)else A.sP a b).1);rw[e];exact hm
 ·replace hx:yh s.sg h k (some ⟨id,next,kv,false⟩) a b=some x:=hx;by_cases e:a=h/\b=k
  ·obtain⟨rfl,rfl⟩:=e;rw[x9]at hx;cases hx;show(_/\_/\_)/\iq w' (if a=a/\b=b then(sb,db,mb)else A.sP a b).1 (if a=a/\b=b then(sb,db,mb)else A.sP a b).2.1 (if a=a/\b=b then(sb,db,mb)else A.sP a b).2.2 _ _ _ _;simp only[and_self,if_true];exact⟨⟨.inr lT.1,.inr lT.2.1,.inr lT.2.2⟩,hs⟩
  ·rw[za e]at hx;obtain⟨⟨h1,h2,h3⟩,h4⟩:=p.stg.e a b x ha hb hx;show(_/\_/\_)/\iq w' (if a=h/\b=k then(sb,db,mb)else A.sP a b).1 (if a=h/\b=k then(sb,db,mb)else A.sP a b).2.1 (if a=h/\b=k then(sb,db,mb)else A.sP a b).2.2 _ _ _ _;simp only[if_neg e];exact⟨⟨.inl h1,.inl h2,.inl h3⟩,h4.block λq hq=>keep q (by rcases hq with rfl|rfl|rfl<;>assumption) (by
    rcases hq with rfl|rfl|rfl
    ·exact p.stg.m.ty h4.s
    ·exact p.stg.m.ty h4.d
    ·exact λe2=>(p.stg.n a b ha hb (by rw[hx];rfl)).1 e2.symm)⟩
 ·replace h1:(yh s.sg h k (some ⟨id,next,kv,false⟩) a b).isSome=true:=h1;replace h2:(yh s.sg h k (some ⟨id,next,kv,false⟩) c d).isSome=true:=h2;replace h3:(if a=h/\b=k then(sb,db,mb)else A.sP a b).1=(if c=h/\d=k then(sb,db,mb)else A.sP c d).1\/(if a=h/\b=k then(sb,db,mb)else A.sP a b).2.2=(if c=h/\d=k then(sb,db,mb)else A.sP c d).2.2:=h3;by_cases e1:a=h/\b=k
  ·by_cases e2:c=h/\d=k
   ·omega
   ·rw[za e2]at h2;have:=olds c d hc hd h2;simp only[if_pos e1,if_neg e2]at h3;omega
  ·rw[za e1]at h1;by_cases e2:c=h/\d=k
   ·have:=olds a b ha hb h1;simp only[if_pos e2,if_neg e1]at h3;omega
   ·rw[za e2]at h2;simp only[if_neg e2,if_neg e1]at h3;exact p.stg.i a b c d ha hb hc hd h1 h2 h3
 ·replace hz:(yh s.sg h k (some ⟨id,next,kv,false⟩) a b).isSome=true:=hz;show A.sm≠(if a=h/\b=k then(sb,db,mb)else A.sP a b).2.2/\∀i,i<4->A.mb i≠(if a=h/\b=k then(sb,db,mb)else A.sP a b).2.2;by_cases e:a=h/\b=k
  ·simp only[if_pos e];have h1:=hold _ p.stg.f;exact⟨by omega,λi hi=>by have:=hold _ (p.mb i hi).1;omega⟩
  ·simp only[if_neg e];rw[za e]at hz;exact p.stg.n a b ha hb hz
theorem jg.jbk {x:Sg} {id next:Nat} {done:Bool} (p:jg w F A s) (hh:h<4) (hk:k<4) (hx:s.sg h k=some x) (hb:But (λb=>b=(A.sP h k).1\/b=(A.sP h k).2.2) w w') (hs:iq w' (A.sP h k).1 (A.sP h k).2.1 (A.sP h k).2.2 id next done kv):
  jg w' F A {s with sg:=yh s.sg h k (some ⟨id,next,kv,done⟩)}/\But F w w':=by
 have hX:=p.stg.e h k x hh hk hx;have hz:(s.sg h k).isSome=true:=by rw[hx];rfl
 have ML:∀a b,(yh s.sg h k (some ⟨id,next,kv,done⟩) a b).isSome=(s.sg a b).isSome:=λa b=>by
  by_cases e:a=h/\b=k
  ·obtain⟨rfl,rfl⟩:=e;rw[x9,hz];rfl
  ·rw[za e]
 refine⟨p.MK (sP':=A.sP) hb (λ_ h=>h) (λb e _=>e.elim (λe=>.inl ⟨_,e▸hX.2.s⟩) λe=>.inr (.inr ⟨h,k,hh,hk,hz,e⟩)) ⟨p.stg.f,?_,λa b y ha fH hy=>?_,λa b c d ha hb hc hd h1 h2 h3=>p.stg.i a b c d ha hb hc hd (by rwa [ML]at h1) (by rwa [ML]at h2) h3,λa b ha hb hz=>p.stg.n a b ha hb (by rwa [ML]at hz)⟩,hb.mono λb e=>e.elim (λe=>e▸hX.1.1) λe=>e▸hX.1.2.2⟩
 ·have e:(λa b=>(yh s.sg h k (some ⟨id,next,kv,done⟩) a b).map λ_=>(A.sP a b).1)=λa b=>(s.sg a b).map λ_=>(A.sP a b).1:=by
   funext a b;by_cases e:a=h/\b=k
   ·obtain⟨rfl,rfl⟩:=e;rw[x9,hx];rfl
   ·rw[za e]
  show kz w' A.sm λa b=>(yh s.sg h k (some ⟨id,next,kv,done⟩) a b).map λ_=>(A.sP a b).1;rw[e];refine p.stg.m.block (hb.keep _ p.stg.m.lt λe=>?_);rcases e with e|e
  ·exact p.stg.m.ty hX.2.s e.symm
  ·exact(p.stg.n h k hh hk hz).1 e
 ·by_cases e:a=h/\b=k
  ·obtain⟨rfl,rfl⟩:=e;replace hy:yh s.sg a b (some ⟨id,next,kv,done⟩) a b=some y:=hy;rw[x9]at hy;cases hy;exact⟨hX.1,hs⟩
  ·replace hy:yh s.sg h k (some ⟨id,next,kv,done⟩) a b=some y:=hy;rw[za e]at hy;obtain⟨h1,h4⟩:=p.stg.e a b y ha fH hy;have qK:(s.sg a b).isSome=true:=by rw[hy];rfl
   refine⟨h1,h4.block λq hq=>hb.keep q ?_ ?_⟩
   ·rcases hq with rfl|rfl|rfl
    ·exact(yc h4.s).1
    ·exact(yc h4.d).1
    ·exact h4.m.lt
   ·rcases hq with rfl|rfl|rfl
    ·rintro(e2|e2)
     ·exact e (p.stg.i a b h k ha fH hh hk qK hz (.inl e2))
     ·exact j4 hX.2.m h4.s e2
    ·rintro(e2|e2)
     ·have h5:=h4.d;rw[e2,hX.2.s]at h5;exact absurd (ku h5) (by decide)
     ·exact j4 hX.2.m h4.d e2
    ·rintro(e2|e2)
     ·exact j4 h4.m hX.2.s e2.symm
     ·exact e (p.stg.i a b h k ha fH hh hk qK hz (.inr e2))
end
end Go.Proofs.Ytkpekiajdlolnaa
namespace Go.Proofs.Ytkpekiajdlolnaa.Ph
section
open Go.Conc Go.ConcN Go.RowKit Go.Maps Go.Conc.Lib Go Sim
theorem jv.idleB {w':ae} {F:Nat->Prop} {A:PA} {s:St} {v:ah} (h:jg w F A s) (hb:But (λ_=>False) w w'):jv w F A v s (.returned v) w':=⟨rfl,A,rfl,(h.idle hb).mono λ_ h=>.inl h,hb.mono λ_ x=>x.elim⟩
def nM (f:Fr) (k:Nat):Bs:=Fr.bytes ⟨k,f.qd,f.id,f.n,[]⟩
theorem V5 (kd:Int) (sh id n k:Nat) (ld:ByteArray) (hk:k<256) (kE:sh<256) (hid:id<9223372036854775808) (hn:n<9223372036854775808):
  ao prog 35 #[.agg #[.int .u8 kd,.int .i64 sh,.int .i64 id,.int .i64 n,.string ld],.int .u8 k] w λe w'=>e=.returned (sv (Fr.bytes ⟨k,sh,id,n,[]⟩))/\But (λ_=>False) w w':=by
 have HB:=Hd (λw=>Fz (w:=w) k sh id n ⟨#[]⟩ hk kE hid hn (by decide));have e1:sv (Fr.bytes ⟨k,sh,id,n,[]⟩)=.string (frB k sh id n ⟨#[]⟩):=rfl;rw[e1];clear e1;generalize frB k sh id n ⟨#[]⟩=fb at*;go_enter func35,ntmps35;go_wp2_with (go_at_call 34;refine(HB.o _).mono ?_;rintro e w2 ⟨rfl,h2⟩;have H2:=Hd h2;clear h2)
 go_ret;exact⟨rfl,But.of_below (((zi _ _).alloc (jm _) _).trans (H2.mono (by simp)))⟩
def dlF (f:Fr) (o:Option Sg):Bs×Option Sg:=
 if f.kind=1 then
  if f.n≠0\/f.load≠[]\/(∃x,o=some x/\f.id<x.id)then([],o)
  else(nM f 5,match o with
   |none=>some ⟨f.id,1,[],false⟩
   |some x=>if x.id<f.id then some ⟨f.id,1,[],false⟩else some x)
 else match o with
  |none=>(nM f 6,none)
  |some x=>if x.id<f.id then(nM f 6,some x)else if f.id<x.id then([],some x)else if x.next<f.n then(nM f 6,some x)
   else if f.n<x.next then(nM f 5,some x)else if x.done then([],some x)
   else if(pW f.kind f.qd f.load x.kv).1 then(nM f 5,some ⟨x.id,x.next+1,(pW f.kind f.qd f.load x.kv).2.1,(pW f.kind f.qd f.load x.kv).2.2⟩)else([],some x)
def Et (f:Fr):Bool:=decide (f.qd<4)&&decide (1<=f.kind)&&decide (f.kind<=4)
def dlE (s:St) (h:Int):Int:=if h<0\/s.hosts<=h then 1 else 0
def dlR (s:St) (h:Int) (u:Bs):Bs×St:=if h<0\/s.hosts<=h then([],s)else match jZ u with
 |none=>([],s)
 |some f=>if Et f then((dlF f (s.sg h.toNat f.qd)).1,{s with sg:=yh s.sg h.toNat f.qd (dlF f (s.sg h.toNat f.qd)).2})else([],s)
theorem Wu {α:Type} {f:Nat->Nat->Option α} {o:Option α} (e:f h k=o):yh f h k o=f:=by
 funext a b;by_cases e2:a=h/\b=k
 ·obtain⟨rfl,rfl⟩:=e2;rw[x9,e]
 ·rw[za e2]
theorem rM {f:Fr} (h:ld.data.toList=f.load):frV f=.agg #[.int .u8 f.kind,.int .i64 f.qd,.int .i64 f.id,.int .i64 f.n,.string ld]:=by unfold frV;rw[qy h]
section
variable {w w':ae} {F:Nat->Prop} {A:PA} {s:St}
structure DvW (w0:ae) (F:Nat->Prop) (A:PA) (s:St) (h:Nat) (f:Fr) (fb pb:Nat) (w:ae):Prop where
 p:jg w F A s
 b:But (λ_=>False) w0 w
 fr:w.heap[fb]?=some (.cells #[.int .u8 f.kind,.int .i64 f.qd,.int .i64 f.id,.int .i64 f.n,sv f.load] 65 (0,0))
 q:w.heap[pb]?=some (.cells #[.int .i64 h,.int .i64 f.qd] 93 (0,0))
theorem DvW.drewN {fb:Nat} {f:Fr} (d:DvW w0 F A s h f fb pb w) (n:Nat):DvW w0 F A s h f fb pb (w.drewN n):=⟨d.p.idle (But.drewN (But.refl _ _) n),d.b.drewN n,d.fr,d.q⟩
theorem DvW.of {f:Fr} (p:jg w0 F A s) (hb:But (λ_=>False) w0 w) (fw:ld.data.toList=f.load):DvW w0 F A s h f w.heap.size (w.heap.size+1) ((w.alloc (.cells #[.int .u8 f.kind,.int .i64 f.qd,.int .i64 f.id,.int .i64 f.n,.string ld] 65)).alloc (.cells #[.int .i64 h,.int .i64 f.qd] 93)):=by
 have fJ:=hb.trans (But.of_below (B:=λ_=>False) (((zi w.heap.size w).alloc (jm _) (.cells #[.int .u8 f.kind,.int .i64 f.qd,.int .i64 f.id,.int .i64 f.n,.string ld] 65)).alloc (by simp) (.cells #[.int .i64 h,.int .i64 f.qd] 93)));exact⟨p.idle fJ,fJ,by rw[aw _ _ (by simp),aW,qy fw],heap_alloc_new' _ _ (by simp)⟩
theorem DvW.cells {w0:ae} {h fb pb:Nat} {f:Fr} {ld:ByteArray} (d:DvW w0 F A s h f fb pb w) (fw:ld.data.toList=f.load):w.cell? ⟨fb,0,none⟩=some (.int .u8 f.kind)/\w.cell? ⟨fb,1,none⟩=some (.int .i64 f.qd)/\w.cell? ⟨fb,2,none⟩=some (.int .i64 f.id)/\w.cell? ⟨fb,3,none⟩=some (.int .i64 f.n)/\w.cell? ⟨fb,4,none⟩=some (.string ld)/\w.cell? ⟨pb,0,none⟩=some (.int .i64 h)/\w.cell? ⟨pb,1,none⟩=some (.int .i64 f.qd)/\w.cell? ⟨A.cl,13,none⟩=some (.map (some A.sm)):=by
 have h1:=d.fr;rw[qy fw]at h1;exact⟨by simp[aa,h1],by simp[aa,h1],by simp[aa,h1],by simp[aa,h1],by simp[aa,h1],by simp[aa,d.q],by simp[aa,d.q],(d.p.cells 13 _ rfl).1⟩
theorem jg.look (p:jg w F A s) (hh:h<4) (hk:k<4):(aT 53 (.map (some A.sm)) (.agg #[.int .i64 h,.int .i64 k]) false).run prog w=.ok (ptr ((s.sg h k).map λ_=>(A.sP h k).1)) w:=p.stg.m.look hh hk
theorem ZP (f:Fr) (hf:f.Ok) (k:Nat) (hk:k<256) (ld:ByteArray) (W:ae):ao prog 35 #[.agg #[.int .u8 f.kind,.int .i64 f.qd,.int .i64 f.id,.int .i64 f.n,.string ld],.int .u8 k] W λe w'=>e=.returned (sv (nM f k))/\But (λ_=>False) W w':=
 V5 f.kind f.qd f.id f.n k ld hk hf.qd (by have:=hf.id;omega) (by have:=hf.n;omega)
theorem DvW.same {fb:Nat} {f:Fr} {v:ah} {b:Bs} (d:DvW w0 F A s h f fb pb w) (p0:jg w0 F A s) (hb:But (λ_=>False) w w2) (e:dlF f (s.sg h f.qd)=(b,s.sg h f.qd)) (hv:v=.tuple #[sv b,.int .i64 0]):
  jv w0 F A (.tuple #[sv (dlF f (s.sg h f.qd)).1,.int .i64 0]) {s with sg:=yh s.sg h f.qd (dlF f (s.sg h f.qd)).2} (.returned v) w2:=by
 rw[e,hv];simp only[Wu rfl];exact .idleB p0 (d.b.trans hb)
theorem DvW.stage {fb:Nat} {f:Fr} (d:DvW w0 F A s h f fb pb w) (p0:jg w0 F A s) (hh:h<4) (hs:f.qd<4) (e:w2=nK w.drew) (fw:ld.data.toList=f.load):∃w9,(Instr.mapUpdate 53 (.map (some A.sm)) (.agg #[.int .i64 h,.int .i64 f.qd]) (.pointer (some ⟨w2.heap.size,0,none⟩))).run prog (w2.alloc (.cells #[.int .i64 f.id,.int .i64 1,.pointer (some ⟨w.heap.size+1,0,none⟩),.bool false] 96))=.ok () w9/\
  Hid ((∃A',A'.cl=A.cl/\jg w9 (λb=>F b\/w0.heap.size<=b) A' {s with sg:=yh s.sg h f.qd (some ⟨f.id,1,[],false⟩)})/\But F w0 w9)/\w9.cell? ⟨fb,0,none⟩=some (.int .u8 f.kind)/\w9.cell? ⟨fb,1,none⟩=some (.int .i64 f.qd)/\w9.cell? ⟨fb,2,none⟩=some (.int .i64 f.id)/\w9.cell? ⟨fb,3,none⟩=some (.int .i64 f.n)/\w9.cell? ⟨fb,4,none⟩=some (.string ld)/\w2.cell? ⟨fb,2,none⟩=some (.int .i64 f.id)/\w2.cell? ⟨pb,0,none⟩=some (.int .i64 h)/\w2.cell? ⟨pb,1,none⟩=some (.int .i64 f.qd)/\w2.cell? ⟨A.cl,13,none⟩=some (.map (some A.sm))/\fb<w2.heap.size/\pb<w2.heap.size/\A.cl<w2.heap.size:=by
 have b1:ay w.heap.size w w2:=by rw[e];exact((zi _ _).drew.alloc (jm _) _).alloc (by simp) _
 have qK:w2.heap.size=w.heap.size+2:=by rw[e];simp[nK]
 have m2:w2.heap[w.heap.size]?=some (.map #[] 0):=by rw[e];unfold nK;rw[aw _ _ (by simp)];exact heap_alloc_new' _ _ rfl
 have c2:w2.heap[w.heap.size+1]?=some (.cells #[.map (some w.heap.size)] 109 (0,0)):=by rw[e];exact heap_alloc_new' _ _ (by simp)
 obtain⟨w3,h3⟩:∃w3,w2.alloc (.cells #[.int .i64 f.id,.int .i64 1,.pointer (some ⟨w.heap.size+1,0,none⟩),.bool false] 96)=w3:=⟨_,rfl⟩
 have b2:ay w.heap.size w w3:=by rw[<-h3];exact b1.alloc b1.size _
 have s3:w3.heap[w2.heap.size]?=some (.cells #[.int .i64 f.id,.int .i64 1,.pointer (some ⟨w.heap.size+1,0,none⟩),.bool false] 96 (0,0)):=by rw[<-h3];exact aW _ _
 have m3:w3.heap[w.heap.size]?=some (.map #[] 0):=by rw[<-h3,aw _ _ (by omega)];exact m2
 have c3:w3.heap[w.heap.size+1]?=some (.cells #[.map (some w.heap.size)] 109 (0,0)):=by rw[<-h3,aw _ _ (by omega)];exact c2
 rw[h3];have bt:But (λ_=>False) w0 w3:=d.b.trans (But.of_below b2);have p3:jg w3 (λb=>F b/\b<w0.heap.size) A s:=p0.lts.idle bt;obtain⟨w9,dZ,hm,hb⟩:=p3.stg.m.put hh hs w2.heap.size;have hsm:A.sm<w0.heap.size:=p3.stg.f.2;have hz:w0.heap.size<=w.heap.size:=d.b.size;have kp:∀b,b<w3.heap.size->b≠A.sm->w9.heap[b]?=w3.heap[b]?:=λb h1 h2=>hb.keep b h1 h2;have JF:∀{b:Nat} {o:Obj},w3.heap[b]?=some o->b<w3.heap.size:=λhb=>(yc hb).1;have f9:w9.heap[fb]?=some (.cells #[.int .u8 f.kind,.int .i64 f.qd,.int .i64 f.id,.int .i64 f.n,.string ld] 65 (0,0)):=by
  have h1:=(b2.block fb (yc d.fr).1).trans d.fr;rw[qy fw]at h1;exact(kp fb (JF h1) (p3.stg.m.ty h1)).trans h1
 refine⟨w9,dZ,Hd ⟨⟨_,by rfl,(p3.jbj (w:=w0) (id:=f.id) (next:=1) (kv:=[]) (sb:=w2.heap.size) (db:=w.heap.size+1) (mb:=w.heap.size) hh hs hb hm ⟨(kp _ (JF s3) (by omega)).trans s3,(kp _ (JF c3) (by omega)).trans c3,Lh ((kp _ (JF m3) (by omega)).trans m3)⟩ ⟨by omega,by omega,hz⟩ (λb h=>h.2) bt.size).mono λb h=>h.imp (·.1) id⟩,(bt.mono λ_ x=>x.elim).trans (hb.mono λb e=>e▸p3.stg.f.1)⟩,by simp[aa,f9],by simp[aa,f9],by simp[aa,f9],by simp[aa,f9],by simp[aa,f9],?_⟩;obtain⟨_,_,x2,_,_,y0,y1,z0⟩:=d.cells fw;have cc:=λ(a:Addr) (v:ah) (hv:w.cell? a=some v)=>(b1.cell (xbl w a hv)).trans hv;have l1:=(yc d.fr).1;have l2:=(yc d.q).1;have l3:=d.p.clt;exact⟨cc _ _ x2,cc _ _ y0,cc _ _ y1,cc _ _ z0,by omega,by omega,by omega⟩
theorem KE (y:Nat->ah):lay 168 y=#[y 0,y 1,y 2,y 3,y 4,y 5,y 6,y 7,y 8,y 9,y 10,y 11,y 12,y 13,y 14,y 15,y 16,y 17,y 18,y 19,y 20,y 21,y 22,y 23,y 24,y 25,y 26,y 27,y 28,y 29,y 30,y 31,y 32,y 33,y 34,y 35,y 36,y 37,y 38,y 39,y 40,y 41,y 42,y 43,y 44,y 45,y 46,y 47,y 48,y 49,y 50,y 51,y 52,y 53,y 54,y 55,y 56,y 57,y 58,y 59,y 60,y 61,y 62,y 63,y 64,y 65,y 66,y 67,y 68,y 69,y 70,y 71,y 72,y 73,y 74,y 75,y 76,y 77,y 78,y 79,y 80,y 81,y 82,y 83,y 84,y 85,y 86,y 87,y 88,y 89,y 90,y 91,y 92,y 93,y 94,y 95,y 96,y 97,y 98,y 99,y 100,y 101,y 102,y 103,y 104,y 105,y 106,y 107,y 108,y 109,y 110,y 111,y 112,y 113,y 114,y 115,y 116,y 117,y 118,y 119,y 120,y 121,y 122,y 123,y 124,y 125,y 126,y 127,y 128,y 129,y 130,y 131,y 132,y 133,y 134,y 135,y 136,y 137,y 138,y 139,y 140,y 141,y 142,y 143,y 144,y 145,y 146,y 147,y 148,y 149,y 150,y 151,y 152,y 153,y 154,y 155,y 156,y 157,y 158,y 159,y 160,y 161,y 162,y 163,y 164,y 165,y 166,y 167]:=rfl
theorem jgc {w:ae} (h:t.size=n) (g:K ⟨lay n λj=>t.getD j aS,[]⟩ w):K ⟨t,[]⟩ w:=by
 have e:lay n (λj=>t.getD j aS)=t:=by
  apply Array.ext
  ·simp[lay,h]
  ·intro i h1 h2;simp[lay,Array.getD,h2]
 rwa [e]at g
noncomputable def Es:Array Oper:=match Try.f17.body with
 |some (.seq _ (.seq _ (.seq _ (.seq _ (.seq _ (.seq _ (.seq (.seq _ (.cond _ (.seq _ (.seq (.seq _ (.cond _ a _)) _)) _)) _)))))))=>rg a
 |_=>#[]
theorem ZH {fb:Nat} {f:Fr} {x:Nat->ah} {K1:Act->ae->Prop} (d:DvW w0 F A s h f fb pb w) (p0:jg w0 F A s) (hh:h<4) (hs:f.qd<4) (fw:ld.data.toList=f.load) (x0:x 0=.pointer (some ⟨A.cl,0,none⟩)) (x8:x 8=.pointer (some ⟨fb,0,none⟩)) (gu:x 10=.pointer (some ⟨pb,0,none⟩))
  (done:∀(y:Nat->ah) (w9:ae),y 8=.pointer (some ⟨fb,0,none⟩)->Hid ((∃A',A'.cl=A.cl/\jg w9 (λb=>F b\/w0.heap.size<=b) A' {s with sg:=yh s.sg h f.qd (some ⟨f.id,1,[],false⟩)})/\But F w0 w9)->w9.cell? ⟨fb,0,none⟩=some (.int .u8 f.kind)->w9.cell? ⟨fb,1,none⟩=some (.int .i64 f.qd)->w9.cell? ⟨fb,2,none⟩=some (.int .i64 f.id)->w9.cell? ⟨fb,3,none⟩=some (.int .i64 f.n)->w9.cell? ⟨fb,4,none⟩=some (.string ld)->K ⟨lay 168 y,[]⟩ w9):
  bd prog (aq 12 Es true) (Exit.then K (Exit.then K1 (bodyPost prog Try.f17 PP))) ⟨lay 168 x,[]⟩ w:=by
 obtain⟨k0,k1,k2,k3,k4,q0,q1,m0⟩:=d.cells fw;have D:=Hd d;have P:=Hd p0;have HH:=Hd hh;have HS:=Hd hs;have HL:=Hd fw;have HD:=Hd done;clear d p0 hh hs fw done;obtain⟨x,rfl⟩:=qa x0;obtain⟨x,rfl⟩:=qa (x:=x) (j:=8) (v:=.pointer (some ⟨fb,0,none⟩)) x8;obtain⟨x,rfl⟩:=qa (x:=x) (j:=10) (v:=.pointer (some ⟨pb,0,none⟩)) gu;clear x0 x8 gu;rw[KE];unfold Es;simp only[Try.f17,rg,upd,bD,if_true,if_false];go_region_with (first|(go_at_call 19;refine Lb.mono ?_;rintro e w2 ⟨rfl,h2⟩;obtain⟨w9,dZ,H9,z0,z1,z2,z3,z4,y2,yz0,yz1,y13,l1,l2,l3⟩:=D.stage P.out HH.o HS.o h2 HL.o;clear h2))
 all_goals exact jgc rfl (HD.o _ _ rfl H9 z0 z1 z2 z3 z4)
end
section
variable {w w':ae} {F:Nat->Prop} {A:PA} {s:St}
theorem jg.sgc {x:Sg} (p:jg w F A s) (hh:h<4) (hk:k<4) (hx:s.sg h k=some x):iq w (A.sP h k).1 (A.sP h k).2.1 (A.sP h k).2.2 x.id x.next x.done x.kv:=(p.stg.e h k x hh hk hx).2
theorem q2d {kd sh:Nat} {ld:Bs} (h:(pW kd sh ld kv).1=false):pW kd sh ld kv=(false,kv,false):=by
 unfold pW at h⊢;by_cases h4:kd=4
 ·rw[if_pos h4]at h⊢;replace h:ld.isEmpty=false:=h;rw[h]
 ·rw[if_neg h4]at h⊢;cases e:Dm kd sh ld with
  |none=>rfl
  |some cs=>rw[e]at h;cases h
theorem iq.step {sb db mb id next:Nat} {kv:KV} {done:Bool} (h:iq w sb db mb id next done kv) (n:Nat):iq (w.setCell ⟨sb,1,none⟩ (.int .i64 n)) sb db mb id n done kv/\But (λq=>q=sb\/q=mb) w (w.setCell ⟨sb,1,none⟩ (.int .i64 n)):=by
 refine⟨⟨(xhs w sb 1 _ _ (.int .i64 n) h.s).trans rfl,(xho w _ _ _ h.ne.symm).trans h.d,h.m.block (xho w _ _ _ λe=>j4 h.m h.s e.symm)⟩,But.setCell (But.refl _ _) (.inl rfl) _ _⟩
theorem DvW.took {x:Sg} {fb:Nat} {f:Fr} (d:DvW w0 F A s h f fb pb w) (fw:ld.data.toList=f.load) (hh:h<4) (hs:f.qd<4) (hx:s.sg h f.qd=some x) (hb:But (λb=>b=(A.sP h f.qd).1\/b=(A.sP h f.qd).2.2) w w2):
  w2.cell? ⟨fb,0,none⟩=some (.int .u8 f.kind)/\w2.cell? ⟨fb,1,none⟩=some (.int .i64 f.qd)/\w2.cell? ⟨fb,2,none⟩=some (.int .i64 f.id)/\w2.cell? ⟨fb,3,none⟩=some (.int .i64 f.n)/\w2.cell? ⟨fb,4,none⟩=some (.string ld):=by
 have hS:=jg.sgc d.p hh hs hx;have h1:=(hb.keep fb (yc d.fr).1 (by
  rintro(e|e)
  ·have h5:=d.fr;rw[e,hS.s]at h5;exact absurd (ku h5) (by decide)
  ·exact j4 hS.m d.fr e)).trans d.fr
 rw[qy fw]at h1;exact⟨by simp[aa,h1],by simp[aa,h1],by simp[aa,h1],by simp[aa,h1],by simp[aa,h1]⟩
theorem jg.Z6 {x:Sg} {id next:Nat} {done:Bool} (p:jg w F A s) (hh:h<4) (hk:k<4) (hx:s.sg h k=some x) (hb:But (λb=>b=(A.sP h k).1\/b=(A.sP h k).2.2) w w2) (hs:iq w2 (A.sP h k).1 (A.sP h k).2.1 (A.sP h k).2.2 id next done kv):
  jg w2 F A {s with sg:=yh s.sg h k (some ⟨id,next,kv,done⟩)}/\But F w w2:=p.jbk hh hk hx hb hs
theorem SH {fb:Nat} {f:Fr} {K1:Act->ae->Prop} (ht:t.size=168) (d:DvW w0 F A s h f fb pb w) (p0:jg w0 F A s) (hh:h<4) (hs:f.qd<4) (fw:ld.data.toList=f.load) (x0:t.getD 0 aS=.pointer (some ⟨A.cl,0,none⟩)) (x8:t.getD 8 aS=.pointer (some ⟨fb,0,none⟩)) (gu:t.getD 10 aS=.pointer (some ⟨pb,0,none⟩))
  (done:∀(y:Nat->ah) (w9:ae),y 8=.pointer (some ⟨fb,0,none⟩)->Hid ((∃A',A'.cl=A.cl/\jg w9 (λb=>F b\/w0.heap.size<=b) A' {s with sg:=yh s.sg h f.qd (some ⟨f.id,1,[],false⟩)})/\But F w0 w9)->w9.cell? ⟨fb,0,none⟩=some (.int .u8 f.kind)->w9.cell? ⟨fb,1,none⟩=some (.int .i64 f.qd)->w9.cell? ⟨fb,2,none⟩=some (.int .i64 f.id)->w9.cell? ⟨fb,3,none⟩=some (.int .i64 f.n)->w9.cell? ⟨fb,4,none⟩=some (.string ld)->K ⟨lay 168 y,[]⟩ w9):
  bd prog (aq 12 Es true) (Exit.then K (Exit.then K1 (bodyPost prog Try.f17 PP))) ⟨t,[]⟩ w:=by
 have e:lay 168 (λj=>t.getD j aS)=t:=by
  apply Array.ext
  ·simp[lay,ht]
  ·intro i h1 h2;simp[lay,Array.getD,h2]
 rw[<-e];exact ZH d p0 hh hs fw x0 x8 gu done
theorem X4 (p:jg w F A s) (hho:s.hosts<=4) (vK:∀h k x,h<4->k<4->s.sg h k=some x->x.kv.length<=268435456/\x.next<=4611686018427387904/\x.id<=4611686018427387904) (h:Int) (u:ByteArray) (hu:u.size<=268435456) (Na: -9223372036854775808<=h/\h<=9223372036854775807):
  ao prog 17 #[.pointer (some ⟨A.cl,0,none⟩),.int .i64 h,.string u] w (jv w F A (.tuple #[sv (dlR s h u.data.toList).1,.int .i64 (dlE s h)]) (dlR s h u.data.toList).2):=by
 have c0:w.cell? ⟨A.cl,0,none⟩=some (.int .i64 s.hosts):=(p.cells 0 _ rfl).1;have H:=Hd p;unfold dlR dlE;by_cases xN:h<0\/s.hosts<=h
 ·rw[if_pos xN,if_pos xN];clear p vK;rcases aL h 0 with h2|h2
  ·have g1:decide (h<0)=true:=xdt h2;go_enter func17,ntmps17;go_wp2;go_ret2;exact .idle H.o (zi _ _)
  ·have g1:decide (h<0)=false:=xdf (by omega);have g2:decide ((s.hosts:Int)<=h)=true:=xdt (by omega);go_enter func17,ntmps17;go_wp2;go_ret2;exact .idle H.o (zi _ _)
 rw[if_neg xN,if_neg xN];obtain⟨h,rfl⟩:∃n:Nat,h=n:=⟨h.toNat,by omega⟩
 have hh4:h<4:=by omega
 rw[ac];have g1:decide ((h:Int)<0)=false:=xdf (by omega);have g2:decide (s.hosts<=h)=false:=xdf (by omega);have HR:=Hd (uZ (w:=w) u (by omega));unfold jy at HR;cases gK:jZ u.data.toList with
 |none=>
  rw[gK]at HR;clear p vK;go_enter func17,ntmps17;go_wp2_with (go_at_call 30;refine HR.mono ?_;rintro e w1 ⟨⟨f,rfl⟩,h1⟩;obtain⟨ld,fw⟩:=qh f.load;rw[rM fw];have B1:=Hd h1;clear h1 fw)
  go_ret2;exact .idleB H.o (B1.trans (But.of_below ((zi _ _).alloc (jm _) _)))
 |some f=>
  rw[gK]at HR;have Uk:=(q1u gK).2;obtain⟨ld,fw⟩:=qh f.load;have yu:=Hd fw;by_cases fu:Et f=false
  ·have hb:4<=f.qd\/f.kind<1\/4<f.kind:=by
    simp only[Et,aM,decide_eq_false_iff_not]at fu;omega
   have hbi:(4:Int)<=f.qd\/(f.kind:Int)<1\/(4:Int)<f.kind:=by omega
   simp only[fu];clear p vK fw fu hb;go_enter func17,ntmps17;go_wp2_with (go_at_call 30;refine HR.mono ?_;rintro e w1 ⟨rfl,h1⟩;rw[rM yu.out];have B1:=Hd h1;clear h1)
   all_goals first
    |(exfalso;omega)
    |(go_ret2
      exact .idleB H.o (B1.trans (But.of_below ((zi _ _).alloc (jm _) _))))
  ·have CG:Et f=true:=by simpa using fu
   simp only[CG,if_true];have hb:=CG;simp only[Et,ak,decide_eq_true_eq]at hb;obtain⟨⟨hs4,Ak⟩,hk4⟩:=hb;have j1:decide ((4:Int)<=f.qd)=false:=xdf (by omega);have j2:decide ((f.kind:Int)<1)=false:=xdf (by omega);have j3:decide ((4:Int)<f.kind)=false:=xdf (by omega);clear fu CG;have AQ:=Hd hh4;have AP:=Hd hs4;have Va:=Hd Uk;have U9:=Hd vK;clear p vK fw Uk gK;go_enter func17,ntmps17;go_wp2_with (go_at_call 30;refine HR.mono ?_;rintro e w1 ⟨rfl,h1⟩;rw[rM yu.out];have B1:=Hd h1;clear h1)
   obtain⟨W,hW⟩:∃W,(w1.alloc (.cells #[.int .u8 f.kind,.int .i64 f.qd,.int .i64 f.id,.int .i64 f.n,.string ld] 65)).alloc (.cells #[.int .i64 h,.int .i64 f.qd] 93)=W:=⟨_,rfl⟩
   have D:=Hd (DvW.of (h:=h) H.o B1.o yu.out);rw[hW]at D⊢;clear hW;obtain⟨k0,k1,k2,k3,k4,q0,q1,m0⟩:=D.cells yu.out;have hl:∀n,(aT 53 (.map (some A.sm)) (.agg #[.int .i64 h,.int .i64 f.qd]) false).run prog (W.drewN n)=.ok (ptr ((s.sg h f.qd).map λ_=>(A.sP h f.qd).1)) (W.drewN n):=λn=>jg.look (D.drewN n).p AQ.o AP.o;have HA:=Hd (λk hk W=>ZP f Va.o k hk ld W);obtain⟨a5,h5⟩:=qh (nM f 5);obtain⟨a6,h6⟩:=qh (nM f 6);have xG:=Hd h5;have Ea:=Hd h6;clear h5 h6;cases ho:s.sg h f.qd with
   |none=>
    rw[ho]at hl;replace hl:∀n,(aT 53 (.map (some A.sm)) (.agg #[.int .i64 h,.int .i64 f.qd]) false).run prog (W.drewN n)=.ok (.pointer none) (W.drewN n):=hl;have HO:=Hd ho;clear ho;go_quiet (fail);have D1:=Hd (D.drewN nq);generalize W.drewN nq=V at D1⊢;obtain⟨k0,k1,k2,k3,k4,q0,q1,m0⟩:=D1.cells yu.out;clear hl D;by_cases hk:f.kind=1
    ·have DY:((f.kind:Int)==1)=true:=by simp[hk]
     have gL:ld.toList.isEmpty=f.load.isEmpty:=by rw[ag,yu.out]
     by_cases hn:f.n=0/\f.load.isEmpty=true
     ·have yO:((f.n:Int) !=0)=false:=by simp[hn.1]
      rw[hn.2]at gL;have jD:Hid (dlF f (s.sg h f.qd)=(nM f 5,some ⟨f.id,1,[],false⟩)):=Hd (by
       unfold dlF;rw[HO.o,if_pos hk,if_neg];rintro(e|e|⟨x,e,_⟩)
       ·exact e hn.1
       ·exact e (by simpa using hn.2)
       ·cases e)
      clear hk;replace hn:=Hd hn;go_wp2;go_quiet (fail);go_wp2;have D2:=Hd (D1.drewN nq);generalize V.drewN nq=V2 at D2⊢;obtain⟨k0,k1,k2,k3,k4,q0,q1,m0⟩:=D2.cells yu.out;go_quiet (fail);go_wp2;have D3:=Hd (D2.drewN nq);generalize V2.drewN nq=V3 at D3⊢;obtain⟨k0,k1,k2,k3,k4,q0,q1,m0⟩:=D3.cells yu.out;clear D1 D2 g1 g2 j1 j2 j3 DY yO gL HR hn;change bd _ (aq 12 Es true) _ _ _;refine SH rfl D3.o H.o AQ.o AP.o yu.out rfl rfl rfl ?_;intro y w9 y8 H9 k0 k1 k2 k3 k4;rw[KE];rw[y8];go_wp2_with (go_at_call 35;refine(HA.o 5 (by decide) _).mono ?_;rw[qy xG.o];rintro e O5 ⟨rfl,ig⟩;have zA:=Hd ig;clear ig)
      go_ret2;rw[jD.o];obtain⟨⟨A',e1,e2⟩,e3⟩:=H9.o;exact⟨by rw[qy xG.o];rfl,A',e1,e2.idle zA.o,e3.trans (zA.mono λ_ x=>x.elim)⟩
     ·have jD:Hid (dlF f (s.sg h f.qd)=([],s.sg h f.qd)):=Hd (by
       unfold dlF;rw[HO.o,if_pos hk,if_pos];by_cases e:f.n=0
       ·exact .inr (.inl λe2=>hn ⟨e,by rw[e2];rfl⟩)
       ·exact .inl e)
      have xS:((f.n:Int) !=0)=true\/((f.n:Int) !=0)=false/\f.load.isEmpty=false:=by
       by_cases e:f.n=0
       ·refine .inr ⟨by simp[e],?_⟩;cases e2:f.load.isEmpty
        ·rfl
        ·exact absurd ⟨e,e2⟩ hn
       ·exact .inl (by simp;omega)
      clear hn hk;rcases xS with yO|⟨yO,nC⟩;all_goals
       first|rw[nC]at gL|skip
       go_wp2;go_quiet (fail);go_wp2;go_ret2;exact D1.same H.o ((But.refl _ _).drewN _) jD.o rfl
    ·have DY:((f.kind:Int)==1)=false:=by simp;omega
     have jD:Hid (dlF f (s.sg h f.qd)=(nM f 6,s.sg h f.qd)):=Hd (by unfold dlF;rw[HO.o,if_neg hk]);go_wp2;go_quiet (fail);go_wp2_with (go_at_call 35;refine(HA.o 6 (by decide) _).mono ?_;rw[qy Ea.o];rintro e w9 ⟨rfl,h9⟩;have H9:=Hd h9;clear h9)
     go_ret2;exact D1.same H.o (((But.refl _ _).drewN _).trans H9.o) jD.o (by rw[qy Ea.o];rfl)
   |some x=>
    rw[ho]at hl;replace hl:∀n,(aT 53 (.map (some A.sm)) (.agg #[.int .i64 h,.int .i64 f.qd]) false).run prog (W.drewN n)=.ok (.pointer (some ⟨(A.sP h f.qd).1,0,none⟩)) (W.drewN n):=hl;have FK:Hid (∀{V w2:ae},DvW w F A s h f w1.heap.size (w1.heap.size+1) V->But (λb=>b=(A.sP h f.qd).1\/b=(A.sP h f.qd).2.2) V w2->w2.cell? ⟨w1.heap.size,0,none⟩=some (.int .u8 f.kind)/\w2.cell? ⟨w1.heap.size,1,none⟩=some (.int .i64 f.qd)/\w2.cell? ⟨w1.heap.size,2,none⟩=some (.int .i64 f.id)/\w2.cell? ⟨w1.heap.size,3,none⟩=some (.int .i64 f.n)/\w2.cell? ⟨w1.heap.size,4,none⟩=some (.string ld)):=Hd λd hb=>d.took yu.out AQ.o AP.o ho hb;have ST:Hid (∀{V w2:ae} {id next:Nat} {done:Bool} {kv:KV},jg V F A s->But (λb=>b=(A.sP h f.qd).1\/b=(A.sP h f.qd).2.2) V w2->iq w2 (A.sP h f.qd).1 (A.sP h f.qd).2.1 (A.sP h f.qd).2.2 id next done kv->jg w2 F A {s with sg:=yh s.sg h f.qd (some ⟨id,next,kv,done⟩)}/\But F V w2):=Hd λp hb hs=>jg.Z6 p AQ.o AP.o ho hb hs;have SG:Hid (∀{V:ae},jg V F A s->iq V (A.sP h f.qd).1 (A.sP h f.qd).2.1 (A.sP h f.qd).2.2 x.id x.next x.done x.kv):=Hd λp=>jg.sgc p AQ.o AP.o ho;generalize (A.sP h f.qd).1=sb at hl SG FK ST;generalize (A.sP h f.qd).2.1=db at SG ST;generalize (A.sP h f.qd).2.2=mb at SG FK ST;have HO:=Hd ho;clear ho;go_quiet (fail);have D1:=Hd (D.drewN nq);generalize W.drewN nq=V at D1⊢;obtain⟨k0,k1,k2,k3,k4,q0,q1,m0⟩:=D1.cells yu.out;obtain⟨s0,s1,s2,s3,sf⟩:=(SG.o D1.p).cells;clear D hl;have gL:ld.toList.isEmpty=f.load.isEmpty:=by rw[ag,yu.out]
    by_cases hk:f.kind=1
    ·have DY:((f.kind:Int)==1)=true:=by simp[hk]
     by_cases hn:f.n=0/\f.load.isEmpty=true
     ·have yO:((f.n:Int) !=0)=false:=by simp[hn.1]
      rw[hn.2]at gL;rcases aA f.id x.id with dW|l7
      ·have i1:decide (f.id<x.id)=true:=xdt (by omega);have jD:Hid (dlF f (s.sg h f.qd)=([],s.sg h f.qd)):=Hd (by
        unfold dlF
        rw[HO.o,if_pos hk,if_pos (.inr (.inr ⟨x,rfl,dW⟩))])
       clear hk hn dW;go_wp2;go_quiet (fail);have D2:=Hd (D1.drewN nq);generalize V.drewN nq=V2 at D2⊢;obtain⟨k0,k1,k2,k3,k4,q0,q1,m0⟩:=D2.cells yu.out;obtain⟨s0,s1,s2,s3,sf⟩:=(SG.o D2.p).cells;clear D1;go_wp2;go_ret2;exact D2.same H.o (But.refl _ _) jD.o rfl
      ·have i1:decide (f.id<x.id)=false:=xdf (by omega);have fq:¬(f.n≠0\/f.load≠[]\/∃y,some x=some y/\f.id<y.id):=by
        rintro(e|e|⟨y,e,e2⟩)
        ·exact e hn.1
        ·exact e (by simpa using hn.2)
        ·cases e;omega
       rcases aA x.id f.id with dW|uG
       ·have i2:decide (x.id<f.id)=true:=xdt (by omega);have jD:Hid (dlF f (s.sg h f.qd)=(nM f 5,some ⟨f.id,1,[],false⟩)):=Hd (by
         unfold dlF;rw[HO.o,if_pos hk,if_neg fq]
         simp only[if_pos dW])
        clear hk hn dW fq l7;go_wp2;go_quiet (fail);have D2:=Hd (D1.drewN nq);generalize V.drewN nq=V2 at D2⊢;obtain⟨k0,k1,k2,k3,k4,q0,q1,m0⟩:=D2.cells yu.out;obtain⟨s0,s1,s2,s3,sf⟩:=(SG.o D2.p).cells;clear D1;go_wp2;go_quiet (fail);have D3:=Hd (D2.drewN nq);generalize V2.drewN nq=V3 at D3⊢;obtain⟨k0,k1,k2,k3,k4,q0,q1,m0⟩:=D3.cells yu.out;obtain⟨s0,s1,s2,s3,sf⟩:=(SG.o D3.p).cells;clear D2;clear g1 g2 j1 j2 j3 DY yO gL HR i1 i2 s0 s1 s2 s3 sf;go_wp2;change bd _ (aq 12 Es true) _ _ _;refine SH rfl D3.o H.o AQ.o AP.o yu.out rfl rfl rfl ?_;intro y w9 y8 H9 k0 k1 k2 k3 k4;rw[KE];rw[y8];go_wp2_with (go_at_call 35;refine(HA.o 5 (by decide) _).mono ?_;rw[qy xG.o];rintro e O5 ⟨rfl,ig⟩;have zA:=Hd ig;clear ig)
        go_ret2;rw[jD.o];obtain⟨⟨A',e1,e2⟩,e3⟩:=H9.o;exact⟨by rw[qy xG.o];rfl,A',e1,e2.idle zA.o,e3.trans (zA.mono λ_ x=>x.elim)⟩
       ·have i2:decide (x.id<f.id)=false:=xdf (by omega);have jD:Hid (dlF f (s.sg h f.qd)=(nM f 5,s.sg h f.qd)):=Hd (by
         unfold dlF;rw[HO.o,if_pos hk,if_neg fq]
         simp only[if_neg (al.2 uG)])
        clear hk hn fq l7 uG;go_wp2;go_quiet (fail);have D2:=Hd (D1.drewN nq);generalize V.drewN nq=V2 at D2⊢;obtain⟨k0,k1,k2,k3,k4,q0,q1,m0⟩:=D2.cells yu.out;obtain⟨s0,s1,s2,s3,sf⟩:=(SG.o D2.p).cells;clear D1;go_wp2;go_quiet (fail);have D3:=Hd (D2.drewN nq);generalize V2.drewN nq=V3 at D3⊢;obtain⟨k0,k1,k2,k3,k4,q0,q1,m0⟩:=D3.cells yu.out;obtain⟨s0,s1,s2,s3,sf⟩:=(SG.o D3.p).cells;clear D2;go_wp2_with (go_at_call 35;refine(HA.o 5 (by decide) _).mono ?_;rw[qy xG.o];rintro e w9 ⟨rfl,h9⟩;have H9:=Hd h9;clear h9)
        go_ret2;exact D3.same H.o H9.o jD.o (by rw[qy xG.o];rfl)
     ·have jD:Hid (dlF f (s.sg h f.qd)=([],s.sg h f.qd)):=Hd (by
       unfold dlF;rw[HO.o,if_pos hk,if_pos];by_cases e:f.n=0
       ·exact .inr (.inl λe2=>hn ⟨e,by rw[e2];rfl⟩)
       ·exact .inl e)
      have xS:((f.n:Int) !=0)=true\/((f.n:Int) !=0)=false/\f.load.isEmpty=false:=by
       by_cases e:f.n=0
       ·refine .inr ⟨by simp[e],?_⟩;cases e2:f.load.isEmpty
        ·rfl
        ·exact absurd ⟨e,e2⟩ hn
       ·exact .inl (by simp;omega)
      clear hn hk;rcases xS with yO|⟨yO,nC⟩;all_goals
       first|rw[nC]at gL|skip
       go_wp2;go_quiet (fail);have D2:=Hd (D1.drewN nq);generalize V.drewN nq=V2 at D2⊢;obtain⟨k0,k1,k2,k3,k4,q0,q1,m0⟩:=D2.cells yu.out;obtain⟨s0,s1,s2,s3,sf⟩:=(SG.o D2.p).cells;clear D1;go_wp2;go_ret2;exact D2.same H.o (But.refl _ _) jD.o rfl
    ·have DY:((f.kind:Int)==1)=false:=by simp;omega
     have i3:((x.id:Int)==f.id)=true\/((x.id:Int)==f.id)=false:=by cases((x.id:Int)==f.id)<;>simp
     rcases aA x.id f.id with dW|l7
     ·have i1:decide (x.id<f.id)=true:=xdt (by omega);have jD:Hid (dlF f (s.sg h f.qd)=(nM f 6,s.sg h f.qd)):=Hd (by
       unfold dlF;rw[HO.o,if_neg hk]
       simp only[if_pos dW])
      clear hk dW i3 gL;go_wp2;go_quiet (fail);have D2:=Hd (D1.drewN nq);generalize V.drewN nq=V2 at D2⊢;obtain⟨k0,k1,k2,k3,k4,q0,q1,m0⟩:=D2.cells yu.out;obtain⟨s0,s1,s2,s3,sf⟩:=(SG.o D2.p).cells;clear D1;go_wp2_with (go_at_call 35;refine(HA.o 6 (by decide) _).mono ?_;rw[qy Ea.o];rintro e w9 ⟨rfl,h9⟩;have H9:=Hd h9;clear h9)
      go_ret2;exact D2.same H.o H9.o jD.o (by rw[qy Ea.o];rfl)
     have i1:decide (x.id<f.id)=false:=xdf (by omega);clear i3;rcases aA f.id x.id with dW|uG
     ·have i2:((x.id:Int)==f.id)=false/\(x.id==f.id)=false/\decide (x.id=f.id)=false:=by simp;omega
      have i3:decide (f.id<x.id)=true:=xdt (by omega);have jD:Hid (dlF f (s.sg h f.qd)=([],s.sg h f.qd)):=Hd (by
       unfold dlF;rw[HO.o,if_neg hk]
       simp only[if_neg (al.2 l7),if_pos dW])
      clear hk l7 dW gL;go_wp2;go_quiet (fail);have D2:=Hd (D1.drewN nq);generalize V.drewN nq=V2 at D2⊢;obtain⟨k0,k1,k2,k3,k4,q0,q1,m0⟩:=D2.cells yu.out;obtain⟨s0,s1,s2,s3,sf⟩:=(SG.o D2.p).cells;clear D1;go_wp2;go_quiet (fail);have D3:=Hd (D2.drewN nq);generalize V2.drewN nq=V3 at D3⊢;obtain⟨k0,k1,k2,k3,k4,q0,q1,m0⟩:=D3.cells yu.out;obtain⟨s0,s1,s2,s3,sf⟩:=(SG.o D3.p).cells;clear D2;go_wp2;go_ret2;exact D3.same H.o (But.refl _ _) jD.o rfl
     have i2:((x.id:Int)==f.id)=true/\(x.id==f.id)=true/\decide (x.id=f.id)=true:=by simp;omega
     have i3:decide (f.id<x.id)=false:=xdf (by omega);rcases aA x.next f.n with dW|Ej
     ·have i4:decide (x.next<f.n)=true:=xdt (by omega);have jD:Hid (dlF f (s.sg h f.qd)=(nM f 6,s.sg h f.qd)):=Hd (by
       unfold dlF;rw[HO.o,if_neg hk]
       simp only[if_neg (al.2 l7),if_neg (al.2 uG),if_pos dW])
      clear hk l7 uG dW gL;go_wp2;go_quiet (fail);have D2:=Hd (D1.drewN nq);generalize V.drewN nq=V2 at D2⊢;obtain⟨k0,k1,k2,k3,k4,q0,q1,m0⟩:=D2.cells yu.out;obtain⟨s0,s1,s2,s3,sf⟩:=(SG.o D2.p).cells;clear D1;go_wp2_with (go_at_call 35;refine(HA.o 6 (by decide) _).mono ?_;rw[qy Ea.o];rintro e w9 ⟨rfl,h9⟩;have H9:=Hd h9;clear h9)
      go_ret2;exact D2.same H.o H9.o jD.o (by rw[qy Ea.o];rfl)
     have i4:decide (x.next<f.n)=false:=xdf (by omega);rcases aA f.n x.next with dW|zF
     ·have i5:((f.n:Int)==x.next)=false/\(f.n==x.next)=false/\decide (f.n=x.next)=false:=by simp;omega
      have jD:Hid (dlF f (s.sg h f.qd)=(nM f 5,s.sg h f.qd)):=Hd (by
       unfold dlF;rw[HO.o,if_neg hk]
       simp only[if_neg (al.2 l7),if_neg (al.2 uG),if_neg (al.2 Ej),if_pos dW])
      clear hk l7 uG dW gL;go_wp2;go_quiet (fail);have D2:=Hd (D1.drewN nq);generalize V.drewN nq=V2 at D2⊢;obtain⟨k0,k1,k2,k3,k4,q0,q1,m0⟩:=D2.cells yu.out;obtain⟨s0,s1,s2,s3,sf⟩:=(SG.o D2.p).cells;clear D1;go_wp2;go_quiet (fail);have D3:=Hd (D2.drewN nq);generalize V2.drewN nq=V3 at D3⊢;obtain⟨k0,k1,k2,k3,k4,q0,q1,m0⟩:=D3.cells yu.out;obtain⟨s0,s1,s2,s3,sf⟩:=(SG.o D3.p).cells;clear D2;go_wp2;go_quiet (fail);have D4:=Hd (D3.drewN nq);generalize V3.drewN nq=V4 at D4⊢;obtain⟨k0,k1,k2,k3,k4,q0,q1,m0⟩:=D4.cells yu.out;obtain⟨s0,s1,s2,s3,sf⟩:=(SG.o D4.p).cells;clear D3;go_wp2_with (go_at_call 35;refine(HA.o 5 (by decide) _).mono ?_;rw[qy xG.o];rintro e w9 ⟨rfl,h9⟩;have H9:=Hd h9;clear h9)
      go_ret2;exact D4.same H.o H9.o jD.o (by rw[qy xG.o];rfl)
     have i5:((f.n:Int)==x.next)=true/\(f.n==x.next)=true/\decide (f.n=x.next)=true:=by simp;omega
     have rR:f.kind=2\/f.kind=3\/f.kind=4:=by clear i1 i2 i3 i4 i5;omega
     cases rT:x.done with
     |true=>
      rw[rT]at SG;have jD:Hid (dlF f (s.sg h f.qd)=([],s.sg h f.qd)):=Hd (by
       unfold dlF;rw[HO.o,if_neg hk]
       simp only[if_neg (al.2 l7),if_neg (al.2 uG),if_neg (al.2 Ej),if_neg (al.2 zF),rT,if_true])
      clear hk l7 uG gL Ej zF rR;go_wp2;go_quiet (fail);have D2:=Hd (D1.drewN nq);generalize V.drewN nq=V2 at D2⊢;obtain⟨k0,k1,k2,k3,k4,q0,q1,m0⟩:=D2.cells yu.out;obtain⟨s0,s1,s2,s3,sf⟩:=(SG.o D2.p).cells;clear D1;go_wp2;go_quiet (fail);have D3:=Hd (D2.drewN nq);generalize V2.drewN nq=V3 at D3⊢;obtain⟨k0,k1,k2,k3,k4,q0,q1,m0⟩:=D3.cells yu.out;obtain⟨s0,s1,s2,s3,sf⟩:=(SG.o D3.p).cells;clear D2;go_wp2;go_quiet (fail);have D4:=Hd (D3.drewN nq);generalize V3.drewN nq=V4 at D4⊢;obtain⟨k0,k1,k2,k3,k4,q0,q1,m0⟩:=D4.cells yu.out;obtain⟨s0,s1,s2,s3,sf⟩:=(SG.o D4.p).cells;clear D3;go_wp2;go_ret2;exact D4.same H.o (But.refl _ _) jD.o rfl
     |false=>
      rw[rT]at SG;have HT:Hid (∀{V:ae},jg V F A s->ao prog 36 #[.pointer (some ⟨sb,0,none⟩),.agg #[.int .u8 f.kind,.int .i64 f.qd,.int .i64 f.id,.int .i64 f.n,.string ld]] V (FE V sb db mb x.id x.next (pW f.kind f.qd f.load x.kv))):=Hd λp=>by
       rw[<-yu.out];exact jbq (SG.o p) f.kind f.qd f.id f.n ld rR (by rw[vB yu.out];exact Nat.le_of_lt Va.load) (U9.o h f.qd x AQ.o AP.o HO.o).1
      have jD:Hid (dlF f (s.sg h f.qd)=if(pW f.kind f.qd f.load x.kv).1=true then(nM f 5,some ⟨x.id,x.next+1,(pW f.kind f.qd f.load x.kv).2.1,(pW f.kind f.qd f.load x.kv).2.2⟩)else([],some x)):=Hd (by
       unfold dlF;rw[HO.o,if_neg hk];simp only[if_neg (al.2 l7),if_neg (al.2 uG),if_neg (al.2 Ej),if_neg (al.2 zF),rT]
       rfl)
      have TU:=(U9.o h f.qd x AQ.o AP.o HO.o).2.1;have hx0:Hid (x=⟨x.id,x.next,x.kv,false⟩):=Hd (by rw[<-rT]);have HN:Hid ((pW f.kind f.qd f.load x.kv).1=false->pW f.kind f.qd f.load x.kv=(false,x.kv,false)):=Hd q2d;generalize pW f.kind f.qd f.load x.kv=R at HT jD HN;clear hk l7 uG Ej zF rR gL;cases hR:R.1 with
      |false=>
       rw[if_neg (by rw[hR];decide)]at jD;have hR2:=HN.o hR;subst hR2;go_wp2;go_quiet (fail);have D2:=Hd (D1.drewN nq);generalize V.drewN nq=V2 at D2⊢;obtain⟨k0,k1,k2,k3,k4,q0,q1,m0⟩:=D2.cells yu.out;obtain⟨s0,s1,s2,s3,sf⟩:=(SG.o D2.p).cells;clear D1;go_wp2;go_quiet (fail);have D3:=Hd (D2.drewN nq);generalize V2.drewN nq=V3 at D3⊢;obtain⟨k0,k1,k2,k3,k4,q0,q1,m0⟩:=D3.cells yu.out;obtain⟨s0,s1,s2,s3,sf⟩:=(SG.o D3.p).cells;clear D2;go_wp2;go_quiet (fail);have D4:=Hd (D3.drewN nq);generalize V3.drewN nq=V4 at D4⊢;obtain⟨k0,k1,k2,k3,k4,q0,q1,m0⟩:=D4.cells yu.out;obtain⟨s0,s1,s2,s3,sf⟩:=(SG.o D4.p).cells;clear D3;go_wp2_with (go_at_call 36;refine(HT.o D4.p).mono ?_;rintro e w9 ⟨rfl,hS,hB⟩;have H9:=Hd (ai hS hB);clear hS hB)
       go_ret2;rw[jD.o];obtain⟨e1,e2⟩:=ST.out D4.p H9.2 H9.1;rw[<-hx0.out]at e1;exact⟨rfl,A,rfl,e1.mono λ_ h=>.inl h,(D4.b.mono λ_ x=>x.elim).trans e2⟩
      |true=>
       rw[if_pos hR]at jD;clear HN;go_wp2;go_quiet (fail);have D2:=Hd (D1.drewN nq);generalize V.drewN nq=V2 at D2⊢;obtain⟨k0,k1,k2,k3,k4,q0,q1,m0⟩:=D2.cells yu.out;obtain⟨s0,s1,s2,s3,sf⟩:=(SG.o D2.p).cells;clear D1;go_wp2;go_quiet (fail);have D3:=Hd (D2.drewN nq);generalize V2.drewN nq=V3 at D3⊢;obtain⟨k0,k1,k2,k3,k4,q0,q1,m0⟩:=D3.cells yu.out;obtain⟨s0,s1,s2,s3,sf⟩:=(SG.o D3.p).cells;clear D2;go_wp2;go_quiet (fail);have D4:=Hd (D3.drewN nq);generalize V3.drewN nq=V4 at D4⊢;obtain⟨k0,k1,k2,k3,k4,q0,q1,m0⟩:=D4.cells yu.out;obtain⟨s0,s1,s2,s3,sf⟩:=(SG.o D4.p).cells;clear D3;clear g1 g2 j1 j2 j3 DY HR i1 i2 i3 i4;go_wp2_with (first|(go_at_call 36;refine(HT.o D4.p).mono ?_;unfold FE;rw[hR];rintro e w9 ⟨rfl,hS,hB⟩;have H9:=Hd (ai hS hB);obtain⟨_,z1,_,_,zf⟩:=hS.cells;have zA:=Hd (ai (iq.step hS (x.next+1)).1 (hB.trans (iq.step hS (x.next+1)).2));obtain⟨y0,y1,y2,y3,y4⟩:=FK.out D4.o zA.2;simp only[Int.natCast_add,Int.natCast_one]at y0 y1 y2 y3 y4;clear hS hB k0 k1 k2 k3 k4 q0 q1 m0 s0 s1 s2 s3 sf)|(go_at_call 35;refine(HA.o 5 (by decide) _).mono ?_;rw[qy xG.o];rintro e O5 ⟨rfl,ig⟩;have Vf:=Hd ig;clear ig))
       go_ret2;rw[jD.o];obtain⟨e1,e2⟩:=ST.out D4.p zA.2 zA.1;exact⟨by rw[qy xG.o];rfl,A,rfl,(e1.idle Vf.o).mono λ_ h=>.inl h,((D4.b.mono λ_ x=>x.elim).trans e2).trans (Vf.mono λ_ x=>x.elim)⟩
end
def rsK:Option Sg->Option Sg
 |some x=>if x.done then some x else none
 |none=>none
def rsF (sg:Nat->Nat->Option Sg) (h:Nat):Nat->Nat->Option Sg:=λa b=>if a=h then rsK (sg a b)else sg a b
def rsE (s:St) (h:Int):Int:=if h<0\/s.hosts<=h then 1 else 0
def rsR (s:St) (h:Int):St:=if h<0\/s.hosts<=h then s else{s with sg:=rsF s.sg h.toNat}
section
variable {w w':ae} {F:Nat->Prop} {A:PA} {s:St}
theorem pV.congr {sg sg':Nat->Nat->Option Sg} (p:pV w F A sg) (e:∀a b,a<4->b<4->sg' a b=sg a b):pV w F A sg':=by
 refine⟨p.f,?_,λa b x ha hb hx=>p.e a b x ha hb (by rw[<-e a b ha hb];exact hx),λa b c d ha hb hc hd h1 h2 h3=>p.i a b c d ha hb hc hd (by rw[<-e a b ha hb];exact h1) (by rw[<-e c d hc hd];exact h2) h3,λa b ha hb hz=>p.n a b ha hb (by rw[<-e a b ha hb];exact hz)⟩;obtain⟨n,D,m1,m2,m3⟩:=p.m;refine⟨n,D,m1,λa b ha hb=>by rw[m2 a b ha hb];simp only[e a b ha hb],λkl hk=>?_⟩;obtain⟨a,b,ha,hb,e1,e2⟩:=m3 kl hk;exact⟨a,b,ha,hb,e1,by simp only[e a b ha hb];exact e2⟩
theorem jg.q6i {sg':Nat->Nat->Option Sg} (p:jg w F A s) (e:∀a b,a<4->b<4->sg' a b=s.sg a b):jg w F A {s with sg:=sg'}:=⟨p.cl,p.db,p.mb,p.mbi,p.mv,p.mpi,p.cvi,pV.congr p.stg e,p.smb⟩
theorem jg.Z7 {a:Nat} (p:jg w F A s) (ha:a<4) (yU:b<4) (hb:But (· =A.sm) w w') (hm:kz w' A.sm λx y=>(yh s.sg a b none x y).map λ_=>(A.sP x y).1):jg w' F A {s with sg:=yh s.sg a b none}:=by
 have sub:∀{x y:Nat} {v:Sg},yh s.sg a b none x y=some v->s.sg x y=some v:=λ{x y v} h=>by
  by_cases e:x=a/\y=b
  ·obtain⟨rfl,rfl⟩:=e;rw[x9]at h;cases h
  ·rwa [za e]at h
 have MJ:∀{x y:Nat},(yh s.sg a b none x y).isSome=true->(s.sg x y).isSome=true:=λh=>by
  obtain⟨v,hv⟩:=av.1 h;rw[sub hv];rfl
 refine p.MK (sP':=A.sP) hb (λ_ h=>h) (λq e _=>.inr (.inl e)) ⟨p.stg.f,hm,λx y v hx hy hv=>?_,λx y c d hx hy hc hd h1 h2 h3=>p.stg.i x y c d hx hy hc hd (MJ h1) (MJ h2) h3,λx y hx hy hz=>p.stg.n x y hx hy (MJ hz)⟩;obtain⟨h1,h2⟩:=p.stg.e x y v hx hy (sub hv);refine⟨h1,h2.block λq hq=>hb.keep q ?_ ?_⟩
 ·rcases hq with rfl|rfl|rfl
  ·exact h2.lt.1
  ·exact h2.lt.2.1
  ·exact h2.lt.2.2
 ·rcases hq with rfl|rfl|rfl
  ·exact p.stg.m.ty h2.s
  ·exact p.stg.m.ty h2.d
  ·exact λe=>(p.stg.n x y hx hy (by rw[sub hv];rfl)).1 e.symm
structure RgW (w0:ae) (F:Nat->Prop) (A:PA) (s:St) (h r:Nat) (left:Lit->Bool) (cnt:Nat) (cur:Option (Nat×Nat)) (sg':Nat->Nat->Option Sg) (D:aU Unit) (w:ae):Prop where
 p:jg w (λz=>F z/\z<w0.heap.size) A {s with sg:=sg'}
 g:w.ranges prog 93 Rp A.sm r 16 D left cnt
 d:∀a b,a<4->b<4->D.atKey (pk a b) (pd none)=pd ((sg' a b).map λ_=>(A.sP a b).1)
 e:∀kl,Maps.has D kl=true->∃a b,a<4/\b<4/\kl=pk a b/\(sg' a b).isSome=true
 l:∀a b,a<4->b<4->left (pk a b)=true->sg' a b=s.sg a b
 m:∀a b,a<4->b<4->left (pk a b)=false->cur≠some (a,b)->sg' a b=rsF s.sg h a b
 c:∀a b,cur=some (a,b)->a<4/\b<4/\sg' a b=s.sg a b/\left (pk a b)=false
 b:But (· =A.sm) w0 w
theorem RgW.start (p:jg w0 F A s) {D:aU Unit} (m2:∀a b,a<4->b<4->D.atKey (pk a b) (pd none)=pd ((s.sg a b).map λ_=>(A.sP a b).1)) (m3:∀kl,Maps.has D kl=true->∃a b,a<4/\b<4/\kl=pk a b/\((s.sg a b).map λ_=>(A.sP a b).1).isSome=true)
  (hr:w1.ranges prog 93 Rp A.sm w0.heap.size 16 D (Maps.has D) (Maps.size D)) (hg:w0.grownBy w1 none):RgW w0 F A s h w0.heap.size (Maps.has D) (Maps.size D) none s.sg D w1:=by
 have hb:But (λ_=>False) w0 w1:=⟨hg.size,λi hi _=>hg.block i hi (by simp),hg.os,hg.output⟩
 refine⟨p.lts.idle hb,hr,m2,λkl hk=>?_,λ_ _ _ _ _=>rfl,λa b ha hb hl _=>?_,λa b e=>(by cases e),hb.mono λ_ x=>x.elim⟩
 ·obtain⟨a,b,ha,hb,e1,e2⟩:=m3 kl hk;exact⟨a,b,ha,hb,e1,by simpa using e2⟩
 ·have h1:=m2 a b ha hb;rw[atKey_of_not_has hl]at h1;have h2:s.sg a b=none:=by
   cases e:s.sg a b with
   |none=>rfl
   |some x=>rw[e]at h1;simp[pd]at h1
  unfold rsF;split
  ·rw[h2];rfl
  ·rfl
theorem RgW.next {cnt:Nat} {left:Lit->Bool} {sg':Nat->Nat->Option Sg} {D:aU Unit} {x c:ah} {kl:Lit} {y:aU Unit×List MemPlace} (q:RgW w0 F A s h r left cnt none sg' D w) (jF:keyOf prog 93 x=some kl) (vI:left kl=true) (hv:Rp c=some y) (Gs:∀zd,D.atKey kl zd=y.1)
  (wY:w1.ranges prog 93 Rp A.sm r 16 D (λz=>left z&&!z.sameKey kl) rD) (hg:w.grownBy w1 (some r)) (hr:w0.heap.size<=r):
  ∃a b u,a<4/\b<4/\s.sg a b=some u/\x=pkV a b/\c=.pointer (some ⟨(A.sP a b).1,0,none⟩)/\RgW w0 F A s h r (λz=>left z&&!z.sameKey kl) rD (some (a,b)) sg' D w1:=by
 obtain⟨a,b,ha,hb,rfl,hz⟩:=q.e kl (has_true_of_atKey Gs);have e1:x=pkV a b:=wR.inj jF (zR ha hb);obtain⟨u,hu⟩:=av.1 hz;have hs:s.sg a b=some u:=by rw[<-q.l a b ha hb vI,hu]
 have e2:y.1=pd (some (A.sP a b).1):=by rw[<-Gs (pd none),q.d a b ha hb,hu];rfl
 have e3:c=ptr (some (A.sP a b).1):=PS (ps:=y.2) (by rw[hv,<-e2]);have sk:∀{c d:Nat},c<4->d<4->((pk c d).sameKey (pk a b)=true↔(c=a/\d=b)):=λ{c d} hc hd=>by
  rw[WideAt.sameKey_iff (Fa ha hb)];exact⟨λe=>Fe hc hd ha hb e,λe=>by rw[e.1,e.2]⟩
 refine⟨a,b,u,ha,hb,hs,e1,e3,q.p.frame λz hz=>hg.block z (xll hz.2 q.b.size) (by rintro⟨⟩;omega),wY,q.d,q.e,λc d hc hd hl=>q.l c d hc hd (by simp only[ak]at hl;exact hl.1),λc d hc hd hl hn=>?_,λc d e=>?_,⟨xlt q.b.size hg.size,λi hi hn=>(hg.block i (xll hi q.b.size) (by rintro⟨⟩;omega)).trans (q.b.keep i hi hn),hg.os.trans q.b.os,hg.output.trans q.b.output⟩⟩
 ·simp only[aM,Bool.not_eq_false']at hl;rcases hl with hl|hl
  ·exact q.m c d hc hd hl (by simp)
  ·obtain⟨rfl,rfl⟩:=(sk hc hd).1 hl;exact absurd rfl hn
 ·cases e;refine⟨ha,hb,by rw[hu,hs],?_⟩;simp only[aM,Bool.not_eq_false'];exact .inr (WideAt.sameKey_self (Fa ha hb))
theorem RgW.kept {cnt:Nat} {left:Lit->Bool} {cur:Option (Nat×Nat)} {sg':Nat->Nat->Option Sg} {D:aU Unit} (q:RgW w0 F A s h r left cnt cur sg' D w) (hg:w.grownBy w1 none):RgW w0 F A s h r left cnt cur sg' D w1:=by
 have hb:But (λ_=>False) w w1:=⟨hg.size,λi hi _=>hg.block i hi (by simp),hg.os,hg.output⟩
 exact⟨q.p.idle hb,q.g.kept hg (by simp) (by simp),q.d,q.e,q.l,q.m,q.c,q.b.trans (hb.mono λ_ x=>x.elim)⟩
theorem RgW.stay {cnt a:Nat} {left:Lit->Bool} {sg':Nat->Nat->Option Sg} {D:aU Unit} (q:RgW w0 F A s h r left cnt (some (a,b)) sg' D w) (e:rsF s.sg h a b=s.sg a b):RgW w0 F A s h r left cnt none sg' D w:=by
 refine⟨q.p,q.g,q.d,q.e,q.l,λc d hc hd hl _=>?_,λ_ _ e=>(by cases e),q.b⟩;by_cases e2:some (a,b)=some (c,d)
 ·cases e2;rw[e];exact(q.c a b rfl).2.2.1
 ·exact q.m c d hc hd hl e2
theorem RgW.drop {cnt a:Nat} {left:Lit->Bool} {sg':Nat->Nat->Option Sg} {D:aU Unit} (q:RgW w0 F A s h r left cnt (some (a,b)) sg' D w) (e:rsF s.sg h a b=none) (wY:w1.ranges prog 93 Rp A.sm r 16 (D.del (pk a b)) (λz=>left z&&!z.sameKey (pk a b)) rD) (ht:w.mapTurned w1 A.sm):RgW w0 F A s h r (λz=>left z&&!z.sameKey (pk a b)) rD none (yh sg' a b none) (D.del (pk a b)) w1:=by
 obtain⟨ha,hb,iZ,kP⟩:=q.c a b rfl;have bt:But (· =A.sm) w w1:=by
  obtain⟨es,ck,gP,UJ,hb,rfl⟩:=ht;exact⟨by simp[ChangeMaps.setBlock],λi hi hn=>ChangeMaps.heap_setBlock_other hb _ hn,rfl,rfl⟩
 have sk:∀{c d:Nat},c<4->d<4->¬(c=a/\d=b)->(pk c d).sameKey (pk a b)=false:=λ{c d} hc hd hn=>by
  cases e3:(pk c d).sameKey (pk a b)with
  |false=>rfl
  |true=>exact absurd (Fe hc hd ha hb ((WideAt.sameKey_iff (Fa ha hb)).1 e3)) hn
 have hd:∀x y,x<4->y<4->(D.del (pk a b)).atKey (pk x y) (pd none)=pd ((yh sg' a b none x y).map λ_=>(A.sP x y).1):=λx y hx hy=>by
  by_cases e2:x=a/\y=b
  ·obtain⟨rfl,rfl⟩:=e2;rw[x9,Maps.atKey_del_same];rfl
  ·rw[za e2,Maps.atKey_del_other (λe3=>e2 (Fe hx hy ha hb e3)),q.d x y hx hy]
 have he:∀kl,Maps.has (D.del (pk a b)) kl=true->∃x y,x<4/\y<4/\kl=pk x y/\(yh sg' a b none x y).isSome=true:=λkl mK=>by
  by_cases e2:kl=pk a b
  ·rw[e2,Maps.has_del_same]at mK;cases mK
  ·rw[Maps.has_del_other e2]at mK;obtain⟨x,y,hx,hy,e3,e4⟩:=q.e kl mK;exact⟨x,y,hx,hy,e3,by rw[za (λe5=>e2 (by rw[e3,e5.1,e5.2]))];exact e4⟩
 refine⟨jg.Z7 q.p ha hb bt ⟨16,_,wY.owns,hd,λkl mK=>?_⟩,wY,hd,he,λx y hx hy hl=>?_,λx y hx hy hl _=>?_,λ_ _ e=>(by cases e),q.b.trans bt⟩
 ·obtain⟨x,y,hx,hy,e3,e4⟩:=he kl mK;exact⟨x,y,hx,hy,e3,by simpa using e4⟩
 ·simp only[ak,Bool.not_eq_true']at hl;have eD:¬(x=a/\y=b):=by
   rintro⟨rfl,rfl⟩;rw[WideAt.sameKey_self (Fa hx hy)]at hl;exact absurd hl.2 (by decide)
  rw[za eD];exact q.l x y hx hy hl.1
 ·by_cases e2:x=a/\y=b
  ·obtain⟨rfl,rfl⟩:=e2;rw[x9,e]
  ·rw[za e2];refine q.m x y hx hy ?_ λe3=>e2 (by cases e3;exact⟨rfl,rfl⟩);simpa[sk hx hy e2]using hl
theorem RgW.done {w0:ae} {h r:Nat} {left:Lit->Bool} {sg':Nat->Nat->Option Sg} {D:aU Unit} {v:ah} (q:RgW w0 F A s h r left 0 none sg' D w) (hl:∀kl,left kl=false) (hF:F A.sm):jv w0 F A v {s with sg:=rsF s.sg h} (.returned v) w:=
 ⟨rfl,A,rfl,(jg.q6i (sg':=rsF s.sg h) q.p λa b ha hb=>(q.m a b ha hb (hl _) (by simp)).symm).mono λz hz=>.inl hz.1,q.b.mono λ_ e=>e▸hF⟩
theorem RgW.drew {cnt:Nat} {left:Lit->Bool} {cur:Option (Nat×Nat)} {sg':Nat->Nat->Option Sg} {D:aU Unit} (q:RgW w0 F A s h r left cnt cur sg' D w):RgW w0 F A s h r left cnt cur sg' D w.drew:=by
 have hb:But (λ_=>False) w w.drew:=But.of_below (zi _ _).drew;exact⟨q.p.idle hb,q.g,q.d,q.e,q.l,q.m,q.c,q.b.trans (hb.mono λ_ x=>x.elim)⟩
theorem RgW.cells {w0:ae} {h r cnt a b:Nat} {left:Lit->Bool} {sg':Nat->Nat->Option Sg} {D:aU Unit} {u:Sg} (q:RgW w0 F A s h r left cnt (some (a,b)) sg' D w) (hu:s.sg a b=some u):w.cell? ⟨(A.sP a b).1,3,none⟩=some (.bool u.done)/\w.cell? ⟨A.cl,13,none⟩=some (.map (some A.sm)):=by
 obtain⟨ha,hb,h1,_⟩:=q.c a b rfl;have hx:({s with sg:=sg'}:St).sg a b=some u:=h1.trans hu;obtain⟨_,_,_,h3,_⟩:=(jg.sgc q.p ha hb hx).cells;exact⟨h3,(q.p.cells 13 _ rfl).1⟩
theorem RgW.drop' {cnt a:Nat} {left:Lit->Bool} {sg':Nat->Nat->Option Sg} {D:aU Unit} {kl:Lit} (q:RgW w0 F A s h r left cnt (some (a,b)) sg' D w) (e:rsF s.sg h a b=none) (ek:kl=pk a b) (wY:w1.ranges prog 93 Rp A.sm r 16 (D.del kl) (λz=>left z&&!z.sameKey kl) rD) (ht:w.mapTurned w1 A.sm):RgW w0 F A s h r (λz=>left z&&!z.sameKey kl) rD none (yh sg' a b none) (D.del kl) w1:=by
 subst ek;exact q.drop e wY ht
theorem Y5 {H:Type} {P:Program} {ops:Array Oper} {o:Oper} {w:ae} {E:Prop}
  (hg:o.guard=none) (m x:bw) (t k:aP) (dU:o.op=Op.call {callee:=Callee.builtin Builtin.delete,args:=#[m,x],argTypes:=#[t,k]})
  (e:aP) (KK:Keyed P k) (ht:P.underlying t=some (.map k e)) (R:ah->Option (aU H×List MemPlace)) (b r n:Nat) (D:aU H) (left:Lit->Bool) (cnt:Nat)
  (hm:a.eval m=.map (some b)) (h:w.ranges P k R b r n D left cnt) (key:ah) (kl:Lit) (hx:a.eval x=key) (jF:keyOf P k key=some kl)
  (hK:∀w' zH,w'.ranges P k R b r n (D.del kl) (λz=>left z&&!z.sameKey kl) zH->zH<=cnt->w.mapTurned w' b->K (a.put o.dst (.tuple #[])) w'):
  if ba o (yielded ops a.tmps)=true then Oper.wp P o a w K Q else E:=by
 have hw:ba o (yielded ops a.tmps)=true:=by simp[ba,hg]
 rw[if_pos hw];obtain⟨w',zH,dZ,r1,r2,r3⟩:=h.drop KK ht jF o.type;unfold Oper.wp;simp[aG,dU,resolve,invoke,builtin,hm,hx,dZ,Result.andThen];exact hK w' zH r1 r2 r3
theorem X0 (p:jg w F A s) (hho:s.hosts<=4) (h:Int) (Na: -9223372036854775808<=h/\h<=9223372036854775807):
  ao prog 14 #[.pointer (some ⟨A.cl,0,none⟩),.int .i64 h] w (jv w F A (.int .i64 (rsE s h)) (rsR s h)):=by
 have c0:w.cell? ⟨A.cl,0,none⟩=some (.int .i64 s.hosts):=(p.cells 0 _ rfl).1;have UK:w.cell? ⟨A.cl,13,none⟩=some (.map (some A.sm)):=(p.cells 13 _ rfl).1;have H:=Hd p;unfold rsR rsE;by_cases xN:h<0\/s.hosts<=h
 ·rw[if_pos xN,if_pos xN];clear p;rcases aL h 0 with h2|h2
  ·have g1:decide (h<0)=true:=xdt h2;go_enter func14,ntmps14;go_wp2;go_ret;exact .idle H.o (zi _ _)
  ·have g1:decide (h<0)=false:=xdf (by omega);have g2:decide ((s.hosts:Int)<=h)=true:=xdt (by omega);go_enter func14,ntmps14;go_wp2;go_ret;exact .idle H.o (zi _ _)
 rw[if_neg xN,if_neg xN];obtain⟨h,rfl⟩:∃n:Nat,h=n:=⟨h.toNat,by omega⟩
 rw[ac];have g1:decide ((h:Int)<0)=false:=xdf (by omega);have g2:decide (s.hosts<=h)=false:=xdf (by omega);obtain⟨D0,ho,m2,m3⟩:=p.stg.m.few;have HM:=Hd (ai m2 m3);clear p m2 m3;go_enter func14,ntmps14;go_wp2_with (first
  |(at_range;refine wpList_range_own _ rfl _ 53 rfl 93 94 wR underlying53 Rp A.sm 16 D0 rfl ho ?_;intro w1 wz jB iR)
  |go_in)
 go_frame;clear c0 UK ho;go_loopw [6] (λ_ wr=>∃(left:Lit->Bool) (cnt:Nat) (sg':Nat->Nat->Option Sg) (D:aU Unit),wr.ranges prog 93 Rp A.sm w.heap.size 16 D left cnt/\Hid (RgW w F A s h w.heap.size left cnt none sg' D wr)) (λ_ wr=>wr.rangeLeft A.sm w.heap.size);case atStart=>exact⟨_,_,_,_,wz,Hd (RgW.start H.o HM.1 HM.2 wz jB)⟩
 case round=>
  obtain⟨left,cnt,sg',D,wY,HQ⟩:=hrel;go_wp2_with (first
   |(at_next;refine wpList_next_ranges _ rfl _ rfl 93 wR Rp (λv:ah=>v) (λv:ah=>v) (λkey kl _=>⟨key,rfl⟩) (λv y _=>⟨v,rfl⟩) A.sm w.heap.size 16 _ _ _ rfl wY ?_ ?_)
   |go_in)
  ·intro Cm JU;subst Cm;have HD:=Hd (HQ.done (v:=.int .i64 0) JU H.stg.f);go_wp2;go_ret;exact HD.o
  ·intro x c kl y yp w1 rD jF vI hv Gs wz dW jB iR uy;obtain⟨a,b,u,ha,hb,hu,e1,e2,q1⟩:=HQ.next (y:=(y,yp)) jF vI hv Gs wz jB (jm _);subst e1 e2;have Q1:=Hd (q1.kept (World.grownBy_alloc w1 (.cells #[.int .i64 a,.int .i64 b] 93) none));have HK:Hid (keyOf prog 93 (.agg #[.int .i64 a,.int .i64 b])=some kl):=Hd jF;have HKP:Hid (kl=pk a b):=Hd (by
    have:=zR ha hb;rw[jF]at this
    injection this)
   have HU:=Hd hu;clear iR;have k0:(w1.alloc (.cells #[.int .i64 a,.int .i64 b] 93)).cell? ⟨w1.heap.size,0,none⟩=some (.int .i64 a):=by go_simp
   have k1:(w1.alloc (.cells #[.int .i64 a,.int .i64 b] 93)).cell? ⟨w1.heap.size,1,none⟩=some (.int .i64 b):=by go_simp
   obtain⟨W,hW⟩:∃W,w1.alloc (.cells #[.int .i64 a,.int .i64 b] 93)=W:=⟨_,rfl⟩
   rw[hW]at Q1 k0 k1;obtain⟨s3,UK⟩:=Q1.cells HU.o;have NS:=Hd dW;have U5:=Hd wY;clear jF vI hv Gs wz q1 hu dW wY;unfold pkV at uy;by_cases hx:a=h/\u.done=false
   ·obtain⟨Ah,vE⟩:=hx;subst Ah;have Ka:Hid (rsF s.sg a a b=none):=Hd (by unfold rsF;rw[if_pos rfl,HU.o];simp[rsK,vE]);rw[vE]at s3;have i1:((a:Int)==a)=true/\(a==a)=true/\decide (a=a)=true:=by simp
    go_wp2;clear hW;go_region_law (refine Y5 rfl _ _ 53 93 rfl 94 wR underlying53 Rp A.sm w.heap.size 16 _ _ _ rfl (by first|exact Q1.g|exact Q1.drew.g) _ kl rfl HK.o ?_;intro w2 cnt2 zC hle sD;have HE:=Hd (ai zC (ai hle sD));clear zC hle sD);all_goals
     obtain⟨zC,hle,sD⟩:=HE.o;have Q2:=Hd (RgW.drop' (by first|exact Q1.o|exact Q1.drew) Ka.o HKP.o zC sD);go_wp2;go_roundw;case rel=>exact⟨_,_,_,_,Q2.g,Q2⟩
     case measure=>rw[Q2.g.left_eq,U5.left_eq];exact Nat.lt_of_le_of_lt hle NS.o
   ·have Ka:Hid (rsF s.sg h a b=s.sg a b):=Hd (by
     unfold rsF;by_cases e:a=h
     ·rw[if_pos e,HU.o];have hd:u.done=true:=by
       cases e2:u.done with
       |true=>rfl
       |false=>exact absurd ⟨e,e2⟩ hx
      simp[rsK,hd]
     ·rw[if_neg e])
    have xS:(((a:Int)==h)=true/\(a==h)=true/\decide (a=h)=true)/\u.done=true\/(((a:Int)==h)=false/\(a==h)=false/\decide (a=h)=false):=by
     by_cases e:a=h
     ·refine .inl ⟨by simp[e],?_⟩;cases e2:u.done with
      |true=>rfl
      |false=>exact absurd ⟨e,e2⟩ hx
     ·exact .inr (by simp;omega)
    clear hx;rcases xS with⟨i1,hd⟩|i1;all_goals
     first|rw[hd]at s3|skip
     go_wp2;go_roundw;case rel=>exact⟨_,_,_,_,(Q1.stay Ka.o).g,Hd (Q1.stay Ka.o)⟩
     case measure=>rw[Q1.g.left_eq,U5.left_eq];exact NS.o
end
end
section
open Go.Proofs.Ytkpekiajdlolnaa
def nfL (m:Mv):Bs:=if m.n=0 then[]else if m.ps≠[]then(pU m.ps).1 else if m.cs≠[]then(pR m.cs).1 else[]
def nfK (m:Mv):Nat:=if m.n=0 then 1 else if m.ps≠[]then 2 else if m.cs≠[]then 3 else 4
def nfP (m:Mv):Nat:=if m.n=0 then m.parts else if m.ps≠[]then(pU m.ps).2 else if m.cs≠[]then(pR m.cs).2 else m.parts
def nfM (n:Nat) (m:Mv):Mv:={m with kind:=nfK m,sent:=Fr.bytes ⟨nfK m,n,m.id,m.n,nfL m⟩,parts:=nfP m,sealed:=m.sealed||nfK m==4}
def nfV (s:St) (k:Int):Bs:=if k<0\/3<k then[]else match s.mv k.toNat with
 |none=>[]
 |some m=>if m.sent.isEmpty then(nfM k.toNat m).sent else m.sent
def nfS (s:St) (k:Int):St:=if k<0\/3<k then s else match s.mv k.toNat with
 |none=>s
 |some m=>if m.sent.isEmpty then{s with mv:=qg s.mv k.toNat (some (nfM k.toNat m))}else s
def hoK (s:St) (k:Nat) (m:Mv):Option Sg:=match s.sg m.to k with
 |some x=>if x.id=m.id/\x.done=true then some x else none
 |none=>none
def hoS (s:St) (k:Nat) (m:Mv):St:={s with ow:=qg s.ow k m.to,kv:=lG s.kv k (match hoK s k m with|some x=>x.kv|none=>[]),mv:=qg s.mv k none,sg:=(match hoK s k m with|some _=>yh s.sg m.to k none|none=>s.sg),ep:=s.ep+1}
def akM (m:Mv):Mv:=if m.kind=2 then{m with sent:=[],ps:=m.ps.drop m.parts,n:=m.n+1}else if m.kind=3 then{m with sent:=[],cs:=m.cs.drop m.parts,n:=m.n+1}else{m with sent:=[],n:=m.n+1}
def akS (s:St) (k:Nat) (m:Mv):St:=if m.kind=4 then hoS s k m else{s with mv:=qg s.mv k (some (akM m))}
def rpF (s:St) (h:Nat) (f:Fr):St:=if f.qd<4/\f.load=[]then match s.mv f.qd with
 |none=>s
 |some m=>if m.fr=h/\m.id=f.id then(if f.kind=6 then bgS s f.qd m.to else if f.kind=5/\m.sent≠[]/\f.n=m.n then akS s f.qd m else s)else s
 else s
def rpE (s:St) (h:Int):Int:=if h<0\/s.hosts<=h then 1 else 0
def rpS (s:St) (h:Int) (u:Bs):St:=if h<0\/s.hosts<=h then s else match jZ u with
 |none=>s
 |some f=>rpF s h.toNat f
section
variable {s s':St}
end
section
variable {s:St}
theorem IZ (L:Nat->KV) (n:Nat) (x:KV):lG L n x n=x:=by unfold lG;rw[if_pos rfl]
theorem FJ (L:Nat->KV) (x:KV) (h:i≠n):lG L n x i=L i:=by unfold lG;rw[if_neg h]
end
section
variable {s:St}
end
section
variable {s:St}
end
end
section
open Go.Conc Go.ConcN Go.RowKit Go.Maps Go.Conc.Lib Go Sim
structure uh (m:Mv):Prop where
 id:m.id<4611686018427387904
 n:m.n<4611686018427387904
 ps:m.ps.length<=1000000
 cs:m.cs.length<=1000000
 psf:∀p∈m.ps,p.1.length<=8/\p.2.length<=12
 csf:∀c∈m.cs,c.k.length<=8/\c.v.length<=12
theorem Xn {l:KV} (hl:l.length<=1000000) (hk:∀p∈l,p.1.length<=8/\p.2.length<=12):(pU l).1.length<=1000/\(pU l).2<=l.length:=by
 obtain⟨j,h1,h2,_,h4⟩:=RI l [] [] 0;have h5:=h4 (by decide) (λ_=>rfl) (by decide) hk;unfold pU;rw[h2];have:=sV 8 (0+j) (by omega);simp only[ax];simp only[ax]at h5;exact⟨by omega,by omega⟩
theorem Xj {l:List Chg} (hl:l.length<=1000000) (hk:∀p∈l,p.k.length<=8/\p.v.length<=12):(pR l).1.length<=1000/\(pR l).2<=l.length:=by
 obtain⟨j,h1,h2,_,h4⟩:=RH l [] 0;have h5:=h4 (by decide) (λ_=>rfl) hk;unfold pR;rw[h2];have:=sV 8 (0+j) (by omega);simp only[ax];simp only[ax]at h5;exact⟨by omega,by omega⟩
section
variable {w w' w0:ae} {F:Nat->Prop} {A:PA} {s:St} {n x:Nat} {pv cv:ah} {ld:ByteArray} {m:Mv}
theorem uV.src {v:ah} {l:KV} (h:uV w v l):JE w v l:=by
 obtain⟨sa,cp,rfl,_⟩:=jo.shape h;refine⟨sa,cp,rfl,λi p hp=>?_⟩;rcases h.2 with⟨e,h0⟩|⟨g,off,cap,cur,e,hh⟩
 ·have:=(aB.1 hp).1;omega
 ·have hc:=jo.cells (g:=g) (off:=off) (m:=l.length) (cap:=cap) (e▸h);cases e;obtain⟨f1,f2⟩:=flat_get l i p hp;exact⟨g,off,rfl,hc _ _ f1,by have:=hc _ _ f2;rwa [<-Nat.add_assoc]at this⟩
theorem pJ.src {v:ah} {l:List Chg} (h:pJ w v l):JB w v l:=by
 obtain⟨sa,cp,rfl,_⟩:=jo.shape h;refine⟨sa,cp,rfl,λi p hp=>?_⟩;rcases h.2 with⟨e,h0⟩|⟨g,off,cap,cur,e,hh⟩
 ·have:=(aB.1 hp).1;omega
 ·have hc:=jo.cells (g:=g) (off:=off) (m:=l.length) (cap:=cap) (e▸h);cases e;obtain⟨f1,f2,f3⟩:=LD l i p hp;exact⟨g,off,rfl,hc _ _ f1,by have:=hc _ _ f2;rwa [<-Nat.add_assoc]at this,by have:=hc _ _ f3;rwa [<-Nat.add_assoc]at this⟩
structure NfW (w0:ae) (x n:Nat) (pv cv:ah) (ld:ByteArray) (m:Mv) (w:ae):Prop where
 b:w.heap[x]?=some (.cells (qf n pv cv ld m) 67 (0,0))
 but:But (· =x) w0 w
theorem NfW.below (h:NfW w0 x n pv cv ld m w) (hb:ay w.heap.size w w'):NfW w0 x n pv cv ld m w':=⟨(hb.block _ (yc h.b).1).trans h.b,h.but.trans (But.of_below hb)⟩
theorem NfW.store (h:NfW w0 x n pv cv ld m w) (i:Nat) (v:ah) (ld':ByteArray) (m':Mv) (e:(qf n pv cv ld m).setIfInBounds i v=qf n pv cv ld' m'):NfW w0 x n pv cv ld' m' (w.setCell ⟨x,i,none⟩ v):=by
 have k:=xhs w x i _ _ v h.b;exact⟨k.trans (by rw[e]),But.setCell (B:=(· =x)) h.but rfl _ _⟩
theorem NfW.cell (h:NfW w0 x n pv cv ld m w) (i:Nat) (v:ah) (e:(qf n pv cv ld m)[i]?=some v):w.cell? ⟨x,i,none⟩=some v:=by simp[aa,h.b,e]
theorem NfW.free (h:NfW w0 x n pv cv ld m w) (i:Nat):w.frozen? ⟨x,i,none⟩=false:=by simp[au,h.b]
theorem KD {k:Int} (hk:k<0\/3<k):nfV s k=[]/\nxE s k=8/\nfS s k=s:=⟨by unfold nfV;rw[if_pos hk],by unfold nxE;rw[if_pos hk],by unfold nfS;rw[if_pos hk]⟩
theorem KQ (hn:n<4) (hm:s.mv n=none):nfV s n=[]/\nxE s n=11/\nfS s n=s:=⟨by unfold nfV;rw[if_neg (by omega),ac,hm],by unfold nxE;rw[if_neg (by omega),ac,hm],by unfold nfS;rw[if_neg (by omega),ac,hm]⟩
theorem La (hn:n<4) {m:Mv} (hm:s.mv n=some m) (h:m.sent.isEmpty=false):nfV s n=m.sent/\nxE s n=0/\nfS s n=s:=⟨by unfold nfV;rw[if_neg (by omega),ac,hm];simp[h],by unfold nxE;rw[if_neg (by omega),ac,hm],by unfold nfS;rw[if_neg (by omega),ac,hm];simp[h]⟩
theorem Ic (hn:n<4) {m:Mv} (hm:s.mv n=some m) (h:m.sent.isEmpty=true):nfV s n=(nfM n m).sent/\nxE s n=0/\nfS s n={s with mv:=qg s.mv n (some (nfM n m))}:=⟨by unfold nfV;rw[if_neg (by omega),ac,hm];simp[h],by unfold nxE;rw[if_neg (by omega),ac,hm],by unfold nfS;rw[if_neg (by omega),ac,hm];simp[h]⟩
theorem NfW.done {kd N:Nat} {ld:ByteArray} {m m':Mv} (h:NfW w0 x n (A.pv n) (A.cv n) ld m' w) (hp:jg w0 F A s) (hn:n<4) (eB:s.mv n=some m) (qQ:A.mp n=some x) (hF:F x) (hN:m.n=N) (Gd:nfM n m={m' with sent:=Fr.bytes ⟨kd,n,m.id,N,ld.data.toList⟩}) (e1:m'.ps=m.ps) (e2:m'.cs=m.cs):
  jg (w.setCell ⟨x,10,none⟩ (.string (frB kd n m.id N ld))) F {A with ld:=qg A.ld n ld} {s with mv:=qg s.mv n (some (nfM n m))}/\But F w0 (w.setCell ⟨x,10,none⟩ (.string (frB kd n m.id N ld))):=by
 have k:=xhs w x 10 _ _ (.string (frB kd n m.id N ld)) h.b;have hb:=But.setCell (B:=(· =x)) h.but rfl 10 (.string (frB kd n m.id N ld));refine⟨hp.mvb hn eB qQ hb ?_ (by rw[Gd];exact e1) (by rw[Gd];exact e2),hb.mono λb e=>e▸hF⟩;rw[k,Gd];rfl
theorem q5p (h:jg w F A s) (k:Int) (hk:k<0\/3<k) (yR: -9223372036854775808<=k/\k<=9223372036854775807):
  ao prog 16 #[.pointer (some ⟨A.cl,0,none⟩),.int .i64 k] w (jv w F A (.tuple #[sv (nfV s k),.int .i64 (nxE s k)]) (nfS s k)):=by
 rw[(KD hk).1,(KD hk).2.1,(KD hk).2.2];have H:=Hd h;clear h;go_enter func16,ntmps16;go_wp2_with (go_at_call 29;refine(RF k hk yR A.cl).mono ?_;rintro e w' ⟨rfl,rfl⟩)
 go_ret2;exact .idle H.o (zi _ _)
theorem q5q (h:jg w F A s) (hn:n<4) (eB:s.mv n=none):
  ao prog 16 #[.pointer (some ⟨A.cl,0,none⟩),.int .i64 n] w (jv w F A (.tuple #[sv (nfV s n),.int .i64 (nxE s n)]) (nfS s n)):=by
 have iM:=BR h hn;rw[(KQ hn eB).1,(KQ hn eB).2.1,(KQ hn eB).2.2];have H:=Hd h;rw[eB]at iM;clear h eB;go_enter func16,ntmps16;go_wp2_with (go_at_call 29;refine iM.mono ?_;rintro e w' ⟨rfl,rfl⟩)
 go_ret2;exact .idle H.o (zi _ _)
theorem q5r (h:jg w F A s) (hn:n<4) (eB:s.mv n=some m) (fT:m.sent.isEmpty=false):
  ao prog 16 #[.pointer (some ⟨A.cl,0,none⟩),.int .i64 n] w (jv w F A (.tuple #[sv (nfV s n),.int .i64 (nxE s n)]) (nfS s n)):=by
 have iM:=BR h hn;have hm:=h.mv n hn;have cV:=(h.part n hn).v;rw[eB]at hm iM;obtain⟨x,z1,z2,z3,z4,z5,_⟩:=hm;rw[z1]at cV;replace cV:w.cell? ⟨A.cl,1+n*3+2,none⟩=some (.pointer (some ⟨x,0,none⟩)):=cV;obtain⟨sb,fC⟩:∃b:ByteArray,b.data.toList=m.sent:=⟨⟨m.sent.toArray⟩,by simp⟩
 have yX:w.cell? ⟨x,10,none⟩=some (.string sb):=by rw[<-qy fC];simp[aa,z3,qf]
 have gL:sb.toList.isEmpty=m.sent.isEmpty:=by rw[ag,fC]
 rw[(La hn eB fT).1,(La hn eB fT).2.1,(La hn eB fT).2.2,qy fC];rw[fT]at gL;have H:=Hd h;clear h eB z1 z2 z3 z4 z5 fT fC;go_enter func16,ntmps16;go_wp2_with (go_at_call 29;refine iM.mono ?_;rintro e w' ⟨rfl,rfl⟩)
 go_ret2;exact .idle H.o (zi _ _)
end
section
variable {w w' w0:ae} {F:Nat->Prop} {A:PA} {s:St} {n x:Nat} {pv cv:ah} {ld:ByteArray} {m:Mv}
theorem q08 (h:jg w F A s) (hn:n<4) (eB:s.mv n=some m) (fT:m.sent.isEmpty=true) (L:uh m) (h0:m.n=0):
  ao prog 16 #[.pointer (some ⟨A.cl,0,none⟩),.int .i64 n] w (jv w F A (.tuple #[sv (nfV s n),.int .i64 (nxE s n)]) (nfS s n)):=by
 have iM:=BR h hn;have hm:=h.mv n hn;have cV:=(h.part n hn).v;rw[eB]at hm iM;obtain⟨x,z1,z2,z3,z4,z5,_⟩:=hm;rw[z1]at cV;replace cV:w.cell? ⟨A.cl,1+n*3+2,none⟩=some (.pointer (some ⟨x,0,none⟩)):=cV;obtain⟨sb,fC⟩:∃b:ByteArray,b.data.toList=m.sent:=⟨⟨m.sent.toArray⟩,by simp⟩
 have yX:w.cell? ⟨x,10,none⟩=some (.string sb):=by rw[<-qy fC];simp[aa,z3,qf]
 have gL:sb.toList.isEmpty=m.sent.isEmpty:=by rw[ag,fC]
 have nm:=λ(b:Nat) (e:b=x) (v:ah) (ty:aP) (Ca:ty≠67) (hv:∀q,v.ownBlock=some q->∃c,w.heap[q]?=some (.cells c ty (0,0))) (hq:v.ownBlock=some b)=>(show False by
  obtain⟨c,hc⟩:=hv b hq;rw[e,z3]at hc
  exact Ca (ku hc).symm)
 obtain⟨sp,pp,q3,_⟩:=jo.shape z4;obtain⟨sc,pc,q4,_⟩:=jo.shape z5;have c3:w.cell? ⟨x,3,none⟩=some (.slice sp m.ps.length pp):=by rw[<-q3];simp[aa,z3,qf]
 have c4:w.cell? ⟨x,4,none⟩=some (.slice sc m.cs.length pc):=by rw[<-q4];simp[aa,z3,qf]
 obtain⟨N,hN⟩:∃N,m.n=N:=⟨_,rfl⟩
 have c8:w.cell? ⟨x,8,none⟩=some (.int .i64 N):=by rw[<-hN];simp[aa,z3,qf]
 have c5:w.cell? ⟨x,5,none⟩=some (.int .u8 m.kind):=by simp[aa,z3,qf]
 have c6:w.cell? ⟨x,6,none⟩=some (.int .i64 n):=by simp[aa,z3,qf]
 have c7:w.cell? ⟨x,7,none⟩=some (.int .i64 m.id):=by simp[aa,z3,qf]
 have c9:w.cell? ⟨x,9,none⟩=some (.string (A.ld n)):=by simp[aa,z3,qf]
 have c12:w.cell? ⟨x,12,none⟩=some (.bool m.sealed):=by simp[aa,z3,qf]
 have fr:∀j,w.frozen? ⟨x,j,none⟩=false:=λj=>by simp[au,z3]
 rw[fT]at gL;have HE:=Hd (Ic hn eB fT);have H:=Hd h;have HX:=Hd (ai z1 z2);have sj:=Hd eB;have HL:=Hd L;have HS:=Hd fC;have tN:=Hd hN;have N0:Hid (NfW w x n (A.pv n) (A.cv n) (A.ld n) m w):=Hd ⟨z3,But.refl _ _⟩;have HB:Hid (∀(kd:Nat) (ld:ByteArray) W,kd<5->ld.size<=1048576->ao prog 34 #[.agg #[.int .u8 kd,.int .i64 n,.int .i64 m.id,.int .i64 N,.string ld]] W λe w'=>e=.returned (.string (frB kd n m.id N ld))/\ay W.heap.size W w'):=Hd λkd ld W h1 h3=>
  Fz kd n m.id N ld (by omega) (by omega) (by have:=HL.id;omega) (by have:=HL.n;have:=tN.o;omega) h3
 rw[HE.1,HE.2.1,HE.2.2];have e0:nfM n m={({m with kind:=1}:Mv)with sent:=Fr.bytes ⟨1,n,m.id,N,(⟨#[]⟩:ByteArray).data.toList⟩}:=by
  unfold nfM nfK nfL nfP;simp[h0,<-hN]
 have HV:=Hd e0;rw[show sv (nfM n m).sent=.string (frB 1 n m.id N ⟨#[]⟩)from by rw[e0];rfl];have N1:=Hd ((N0.out.store 5 (.int .u8 1) (A.ld n) {m with kind:=1} rfl).store 9 (.string ⟨#[]⟩) ⟨#[]⟩ {m with kind:=1} rfl);have i0:((N:Int)==0)=true:=by rw[<-hN,h0];rfl
 clear h eB z1 z2 z3 z4 z5 fT fC L nm e0 hN h0;go_enter func16,ntmps16;go_wp2_with (first
  |(go_at_call 29;refine iM.mono ?_;rintro e w' ⟨rfl,rfl⟩)
  |(go_at_call 34;refine(HB.o 1 ⟨#[]⟩ _ (by decide) (by decide)).mono ?_;rintro e w9 ⟨rfl,rU⟩;have N9:=Hd (N1.out.below rU);have J6:=N9.out.cell 10 (.string sb) (by rw[<-qy HS.o];rfl);have f10:=N9.out.free 10;clear rU))
 go_ret2;have HD:=Hd (N9.out.done H.o hn sj.o HX.1 HX.2 tN.o HV.o rfl rfl);exact⟨rfl,{A with ld:=qg A.ld n ⟨#[]⟩},rfl,HD.1.mono λ_ h=>.inl h,HD.2⟩
theorem WO (h:jg w F A s) (hn:n<4) (eB:s.mv n=some m) (fT:m.sent.isEmpty=true) (L:uh m) (h0:m.n≠0) (h1:m.ps=[]) (h2:m.cs=[]):
  ao prog 16 #[.pointer (some ⟨A.cl,0,none⟩),.int .i64 n] w (jv w F A (.tuple #[sv (nfV s n),.int .i64 (nxE s n)]) (nfS s n)):=by
 have iM:=BR h hn;have hm:=h.mv n hn;have cV:=(h.part n hn).v;rw[eB]at hm iM;obtain⟨x,z1,z2,z3,z4,z5,_⟩:=hm;rw[z1]at cV;replace cV:w.cell? ⟨A.cl,1+n*3+2,none⟩=some (.pointer (some ⟨x,0,none⟩)):=cV;obtain⟨sb,fC⟩:∃b:ByteArray,b.data.toList=m.sent:=⟨⟨m.sent.toArray⟩,by simp⟩
 have yX:w.cell? ⟨x,10,none⟩=some (.string sb):=by rw[<-qy fC];simp[aa,z3,qf]
 have gL:sb.toList.isEmpty=m.sent.isEmpty:=by rw[ag,fC]
 have nm:=λ(b:Nat) (e:b=x) (v:ah) (ty:aP) (Ca:ty≠67) (hv:∀q,v.ownBlock=some q->∃c,w.heap[q]?=some (.cells c ty (0,0))) (hq:v.ownBlock=some b)=>(show False by
  obtain⟨c,hc⟩:=hv b hq;rw[e,z3]at hc
  exact Ca (ku hc).symm)
 obtain⟨sp,pp,q3,_⟩:=jo.shape z4;obtain⟨sc,pc,q4,_⟩:=jo.shape z5;have c3:w.cell? ⟨x,3,none⟩=some (.slice sp m.ps.length pp):=by rw[<-q3];simp[aa,z3,qf]
 have c4:w.cell? ⟨x,4,none⟩=some (.slice sc m.cs.length pc):=by rw[<-q4];simp[aa,z3,qf]
 obtain⟨N,hN⟩:∃N,m.n=N:=⟨_,rfl⟩
 have c8:w.cell? ⟨x,8,none⟩=some (.int .i64 N):=by rw[<-hN];simp[aa,z3,qf]
 have c5:w.cell? ⟨x,5,none⟩=some (.int .u8 m.kind):=by simp[aa,z3,qf]
 have c6:w.cell? ⟨x,6,none⟩=some (.int .i64 n):=by simp[aa,z3,qf]
 have c7:w.cell? ⟨x,7,none⟩=some (.int .i64 m.id):=by simp[aa,z3,qf]
 have c9:w.cell? ⟨x,9,none⟩=some (.string (A.ld n)):=by simp[aa,z3,qf]
 have c12:w.cell? ⟨x,12,none⟩=some (.bool m.sealed):=by simp[aa,z3,qf]
 have fr:∀j,w.frozen? ⟨x,j,none⟩=false:=λj=>by simp[au,z3]
 rw[fT]at gL;have HE:=Hd (Ic hn eB fT);have H:=Hd h;have HX:=Hd (ai z1 z2);have sj:=Hd eB;have HL:=Hd L;have HS:=Hd fC;have tN:=Hd hN;have N0:Hid (NfW w x n (A.pv n) (A.cv n) (A.ld n) m w):=Hd ⟨z3,But.refl _ _⟩;have HB:Hid (∀(kd:Nat) (ld:ByteArray) W,kd<5->ld.size<=1048576->ao prog 34 #[.agg #[.int .u8 kd,.int .i64 n,.int .i64 m.id,.int .i64 N,.string ld]] W λe w'=>e=.returned (.string (frB kd n m.id N ld))/\ay W.heap.size W w'):=Hd λkd ld W h1 h3=>
  Fz kd n m.id N ld (by omega) (by omega) (by have:=HL.id;omega) (by have:=HL.n;have:=tN.o;omega) h3
 rw[HE.1,HE.2.1,HE.2.2];have e0:nfM n m={({m with kind:=4,sealed:=true}:Mv)with sent:=Fr.bytes ⟨4,n,m.id,N,(⟨#[]⟩:ByteArray).data.toList⟩}:=by
  unfold nfM nfK nfL nfP;simp[h0,h1,h2,<-hN]
 have HV:=Hd e0;rw[show sv (nfM n m).sent=.string (frB 4 n m.id N ⟨#[]⟩)from by rw[e0];rfl];have N1:=Hd (((N0.out.store 5 (.int .u8 4) (A.ld n) {m with kind:=4} rfl).store 9 (.string ⟨#[]⟩) ⟨#[]⟩ {m with kind:=4} rfl).store 12 (.bool true) ⟨#[]⟩ {m with kind:=4,sealed:=true} rfl);have i0:((N:Int)==0)=false:=by rw[<-hN];simp;omega
 have g1:decide (0<m.ps.length)=false:=by rw[h1];rfl
 have g2:decide (0<m.cs.length)=false:=by rw[h2];rfl
 clear h eB z1 z2 z3 z4 z5 fT fC L nm e0 hN h0 h1 h2;go_enter func16,ntmps16;go_wp2_with (first
  |(go_at_call 29;refine iM.mono ?_;rintro e w' ⟨rfl,rfl⟩)
  |(go_at_call 34;refine(HB.o 4 ⟨#[]⟩ _ (by decide) (by decide)).mono ?_;rintro e w9 ⟨rfl,rU⟩;have N9:=Hd (N1.out.below rU);have J6:=N9.out.cell 10 (.string sb) (by rw[<-qy HS.o];rfl);have f10:=N9.out.free 10;clear rU))
 go_ret2;have HD:=Hd (N9.out.done H.o hn sj.o HX.1 HX.2 tN.o HV.o rfl rfl);exact⟨rfl,{A with ld:=qg A.ld n ⟨#[]⟩},rfl,HD.1.mono λ_ h=>.inl h,HD.2⟩
end
section
variable {w w' w0:ae} {F:Nat->Prop} {A:PA} {s:St} {n x:Nat} {pv cv:ah} {ld:ByteArray} {m:Mv}
theorem q06 (h:jg w F A s) (hn:n<4) (eB:s.mv n=some m) (fT:m.sent.isEmpty=true) (L:uh m) (h0:m.n≠0) (h1:m.ps≠[]):
  ao prog 16 #[.pointer (some ⟨A.cl,0,none⟩),.int .i64 n] w (jv w F A (.tuple #[sv (nfV s n),.int .i64 (nxE s n)]) (nfS s n)):=by
 have iM:=BR h hn;have hm:=h.mv n hn;have cV:=(h.part n hn).v;rw[eB]at hm iM;obtain⟨x,z1,z2,z3,z4,z5,_⟩:=hm;rw[z1]at cV;replace cV:w.cell? ⟨A.cl,1+n*3+2,none⟩=some (.pointer (some ⟨x,0,none⟩)):=cV;obtain⟨sb,fC⟩:∃b:ByteArray,b.data.toList=m.sent:=⟨⟨m.sent.toArray⟩,by simp⟩
 have yX:w.cell? ⟨x,10,none⟩=some (.string sb):=by rw[<-qy fC];simp[aa,z3,qf]
 have gL:sb.toList.isEmpty=m.sent.isEmpty:=by rw[ag,fC]
 have nm:=λ(b:Nat) (e:b=x) (v:ah) (ty:aP) (Ca:ty≠67) (hv:∀q,v.ownBlock=some q->∃c,w.heap[q]?=some (.cells c ty (0,0))) (hq:v.ownBlock=some b)=>(show False by
  obtain⟨c,hc⟩:=hv b hq;rw[e,z3]at hc
  exact Ca (ku hc).symm)
 have HPS:Hid (∀W,But (· =x) w W->JE W (A.pv n) m.ps):=Hd λW hW=>uV.src (z4.block λb hb=>hW.keep b (jo.lt z4 hb) λe=>nm b e _ _ (by decide) (λq hq=>jo.ty z4 hq) hb);obtain⟨sp,pp,q3,_⟩:=jo.shape z4;obtain⟨sc,pc,q4,_⟩:=jo.shape z5;have c3:w.cell? ⟨x,3,none⟩=some (.slice sp m.ps.length pp):=by rw[<-q3];simp[aa,z3,qf]
 have c4:w.cell? ⟨x,4,none⟩=some (.slice sc m.cs.length pc):=by rw[<-q4];simp[aa,z3,qf]
 obtain⟨N,hN⟩:∃N,m.n=N:=⟨_,rfl⟩
 have c8:w.cell? ⟨x,8,none⟩=some (.int .i64 N):=by rw[<-hN];simp[aa,z3,qf]
 have c5:w.cell? ⟨x,5,none⟩=some (.int .u8 m.kind):=by simp[aa,z3,qf]
 have c6:w.cell? ⟨x,6,none⟩=some (.int .i64 n):=by simp[aa,z3,qf]
 have c7:w.cell? ⟨x,7,none⟩=some (.int .i64 m.id):=by simp[aa,z3,qf]
 have c9:w.cell? ⟨x,9,none⟩=some (.string (A.ld n)):=by simp[aa,z3,qf]
 have c12:w.cell? ⟨x,12,none⟩=some (.bool m.sealed):=by simp[aa,z3,qf]
 have fr:∀j,w.frozen? ⟨x,j,none⟩=false:=λj=>by simp[au,z3]
 rw[fT]at gL;have HE:=Hd (Ic hn eB fT);have H:=Hd h;have HX:=Hd (ai z1 z2);have sj:=Hd eB;have HL:=Hd L;have HS:=Hd fC;have tN:=Hd hN;have N0:Hid (NfW w x n (A.pv n) (A.cv n) (A.ld n) m w):=Hd ⟨z3,But.refl _ _⟩;have HB:Hid (∀(kd:Nat) (ld:ByteArray) W,kd<5->ld.size<=1048576->ao prog 34 #[.agg #[.int .u8 kd,.int .i64 n,.int .i64 m.id,.int .i64 N,.string ld]] W λe w'=>e=.returned (.string (frB kd n m.id N ld))/\ay W.heap.size W w'):=Hd λkd ld W h1 h3=>
  Fz kd n m.id N ld (by omega) (by omega) (by have:=HL.id;omega) (by have:=HL.n;have:=tN.o;omega) h3
 rw[HE.1,HE.2.1,HE.2.2];obtain⟨lb,vJ⟩:∃lb,bsB (pU m.ps).1=lb:=⟨_,rfl⟩
 obtain⟨ln,Ce⟩:∃ln,(pU m.ps).2=ln:=⟨_,rfl⟩
 have e0:nfM n m={({m with kind:=2,parts:=ln}:Mv)with sent:=Fr.bytes ⟨2,n,m.id,N,lb.data.toList⟩}:=by
  unfold nfM nfK nfL nfP;simp[h0,h1,<-vJ,<-Ce,bsB,<-hN]
 have HV:=Hd e0;rw[show sv (nfM n m).sent=.string (frB 2 n m.id N lb)from by rw[e0];rfl];have N1:=Hd (N0.out.store 5 (.int .u8 2) (A.ld n) {m with kind:=2} rfl);have i0:((N:Int)==0)=false:=by rw[<-hN];simp;omega
 have g1:decide (0<m.ps.length)=true:=by
  exact xdt (List.length_pos_iff.2 h1)
 have yu:Hid (lb.size<=1048576):=Hd (by have:=(Xn HL.ps HL.psf).1;rw[<-vJ,sZ];omega);have HC:Hid (∀W,But (· =x) w W->ao prog 32 #[.slice sp m.ps.length pp] W λe w'=>e=.returned (.tuple #[.string lb,.int .i64 (ln:Nat)])/\ay W.heap.size W w'):=Hd λW hW=>by
  rw[<-vJ,<-Ce,<-q3];exact q3a (HPS.o W hW) HL.ps HL.psf
 clear h eB z1 z2 z3 z4 z5 fT fC L nm e0 hN vJ Ce h0 h1;go_enter func16,ntmps16;go_wp2_with (first
  |(go_at_call 29;refine iM.mono ?_;rintro e w' ⟨rfl,rfl⟩)
  |(go_at_call 32;refine(HC.o _ N1.out.but).mono ?_;rintro e w2 ⟨rfl,fJ⟩;have N2:=Hd (N1.out.below fJ);have a5:=N2.out.cell 5 (.int .u8 2) rfl;have a6:=N2.out.cell 6 (.int .i64 n) rfl;have a7:=N2.out.cell 7 (.int .i64 m.id) rfl;have a8:=N2.out.cell 8 (.int .i64 N) (by rw[<-tN.o];rfl);have a9:=N2.out.cell 9 (.string (A.ld n)) rfl;have tK:=N2.out.cell 11 (.int .i64 m.parts) rfl;have af:=N2.out.free;have N3:=Hd ((N2.out.store 9 (.string lb) lb {m with kind:=2} rfl).store 11 (.int .i64 (ln:Nat)) lb {m with kind:=2,parts:=ln} rfl);clear fJ)
  |(go_at_call 34;refine(HB.o 2 lb _ (by decide) yu.out).mono ?_;rintro e w9 ⟨rfl,rU⟩;have N9:=Hd (N3.out.below rU);have J6:=N9.out.cell 10 (.string sb) (by rw[<-qy HS.o];rfl);have f10:=N9.out.free 10;clear rU))
 go_ret2;have HD:=Hd (N9.out.done H.o hn sj.o HX.1 HX.2 tN.o HV.o rfl rfl);exact⟨rfl,{A with ld:=qg A.ld n lb},rfl,HD.1.mono λ_ h=>.inl h,HD.2⟩
end
section
variable {w w' w0:ae} {F:Nat->Prop} {A:PA} {s:St} {n x:Nat} {pv cv:ah} {ld:ByteArray} {m:Mv}
theorem q07 (h:jg w F A s) (hn:n<4) (eB:s.mv n=some m) (fT:m.sent.isEmpty=true) (L:uh m) (h0:m.n≠0) (h1:m.ps=[]) (h2:m.cs≠[]):
  ao prog 16 #[.pointer (some ⟨A.cl,0,none⟩),.int .i64 n] w (jv w F A (.tuple #[sv (nfV s n),.int .i64 (nxE s n)]) (nfS s n)):=by
 have iM:=BR h hn;have hm:=h.mv n hn;have cV:=(h.part n hn).v;rw[eB]at hm iM;obtain⟨x,z1,z2,z3,z4,z5,_⟩:=hm;rw[z1]at cV;replace cV:w.cell? ⟨A.cl,1+n*3+2,none⟩=some (.pointer (some ⟨x,0,none⟩)):=cV;obtain⟨sb,fC⟩:∃b:ByteArray,b.data.toList=m.sent:=⟨⟨m.sent.toArray⟩,by simp⟩
 have yX:w.cell? ⟨x,10,none⟩=some (.string sb):=by rw[<-qy fC];simp[aa,z3,qf]
 have gL:sb.toList.isEmpty=m.sent.isEmpty:=by rw[ag,fC]
 have nm:=λ(b:Nat) (e:b=x) (v:ah) (ty:aP) (Ca:ty≠67) (hv:∀q,v.ownBlock=some q->∃c,w.heap[q]?=some (.cells c ty (0,0))) (hq:v.ownBlock=some b)=>(show False by
  obtain⟨c,hc⟩:=hv b hq;rw[e,z3]at hc
  exact Ca (ku hc).symm)
 have HCS:Hid (∀W,But (· =x) w W->JB W (A.cv n) m.cs):=Hd λW hW=>pJ.src (z5.block λb hb=>hW.keep b (jo.lt z5 hb) λe=>nm b e _ _ (by decide) (λq hq=>jo.ty z5 hq) hb);obtain⟨sp,pp,q3,_⟩:=jo.shape z4;obtain⟨sc,pc,q4,_⟩:=jo.shape z5;have c3:w.cell? ⟨x,3,none⟩=some (.slice sp m.ps.length pp):=by rw[<-q3];simp[aa,z3,qf]
 have c4:w.cell? ⟨x,4,none⟩=some (.slice sc m.cs.length pc):=by rw[<-q4];simp[aa,z3,qf]
 obtain⟨N,hN⟩:∃N,m.n=N:=⟨_,rfl⟩
 have c8:w.cell? ⟨x,8,none⟩=some (.int .i64 N):=by rw[<-hN];simp[aa,z3,qf]
 have c5:w.cell? ⟨x,5,none⟩=some (.int .u8 m.kind):=by simp[aa,z3,qf]
 have c6:w.cell? ⟨x,6,none⟩=some (.int .i64 n):=by simp[aa,z3,qf]
 have c7:w.cell? ⟨x,7,none⟩=some (.int .i64 m.id):=by simp[aa,z3,qf]
 have c9:w.cell? ⟨x,9,none⟩=some (.string (A.ld n)):=by simp[aa,z3,qf]
 have c12:w.cell? ⟨x,12,none⟩=some (.bool m.sealed):=by simp[aa,z3,qf]
 have fr:∀j,w.frozen? ⟨x,j,none⟩=false:=λj=>by simp[au,z3]
 rw[fT]at gL;have HE:=Hd (Ic hn eB fT);have H:=Hd h;have HX:=Hd (ai z1 z2);have sj:=Hd eB;have HL:=Hd L;have HS:=Hd fC;have tN:=Hd hN;have N0:Hid (NfW w x n (A.pv n) (A.cv n) (A.ld n) m w):=Hd ⟨z3,But.refl _ _⟩;have HB:Hid (∀(kd:Nat) (ld:ByteArray) W,kd<5->ld.size<=1048576->ao prog 34 #[.agg #[.int .u8 kd,.int .i64 n,.int .i64 m.id,.int .i64 N,.string ld]] W λe w'=>e=.returned (.string (frB kd n m.id N ld))/\ay W.heap.size W w'):=Hd λkd ld W h1 h3=>
  Fz kd n m.id N ld (by omega) (by omega) (by have:=HL.id;omega) (by have:=HL.n;have:=tN.o;omega) h3
 rw[HE.1,HE.2.1,HE.2.2];obtain⟨lb,vJ⟩:∃lb,bsB (pR m.cs).1=lb:=⟨_,rfl⟩
 obtain⟨ln,Ce⟩:∃ln,(pR m.cs).2=ln:=⟨_,rfl⟩
 have e0:nfM n m={({m with kind:=3,parts:=ln}:Mv)with sent:=Fr.bytes ⟨3,n,m.id,N,lb.data.toList⟩}:=by
  unfold nfM nfK nfL nfP;simp[h0,h1,h2,<-vJ,<-Ce,bsB,<-hN]
 have HV:=Hd e0;rw[show sv (nfM n m).sent=.string (frB 3 n m.id N lb)from by rw[e0];rfl];have N1:=Hd (N0.out.store 5 (.int .u8 3) (A.ld n) {m with kind:=3} rfl);have i0:((N:Int)==0)=false:=by rw[<-hN];simp;omega
 have g1:decide (0<m.ps.length)=false:=by rw[h1];rfl
 have g2:decide (0<m.cs.length)=true:=by
  exact xdt (List.length_pos_iff.2 h2)
 have yu:Hid (lb.size<=1048576):=Hd (by have:=(Xj HL.cs HL.csf).1;rw[<-vJ,sZ];omega);have HC:Hid (∀W,But (· =x) w W->ao prog 33 #[.slice sc m.cs.length pc] W λe w'=>e=.returned (.tuple #[.string lb,.int .i64 (ln:Nat)])/\ay W.heap.size W w'):=Hd λW hW=>by
  rw[<-vJ,<-Ce,<-q4];exact q3j (HCS.o W hW) HL.cs HL.csf
 clear h eB z1 z2 z3 z4 z5 fT fC L nm e0 hN vJ Ce h0 h1 h2;go_enter func16,ntmps16;go_wp2_with (first
  |(go_at_call 29;refine iM.mono ?_;rintro e w' ⟨rfl,rfl⟩)
  |(go_at_call 33;refine(HC.o _ N1.out.but).mono ?_;rintro e w2 ⟨rfl,fJ⟩;have N2:=Hd (N1.out.below fJ);have a5:=N2.out.cell 5 (.int .u8 3) rfl;have a6:=N2.out.cell 6 (.int .i64 n) rfl;have a7:=N2.out.cell 7 (.int .i64 m.id) rfl;have a8:=N2.out.cell 8 (.int .i64 N) (by rw[<-tN.o];rfl);have a9:=N2.out.cell 9 (.string (A.ld n)) rfl;have tK:=N2.out.cell 11 (.int .i64 m.parts) rfl;have af:=N2.out.free;have N3:=Hd ((N2.out.store 9 (.string lb) lb {m with kind:=3} rfl).store 11 (.int .i64 (ln:Nat)) lb {m with kind:=3,parts:=ln} rfl);clear fJ)
  |(go_at_call 34;refine(HB.o 3 lb _ (by decide) yu.out).mono ?_;rintro e w9 ⟨rfl,rU⟩;have N9:=Hd (N3.out.below rU);have J6:=N9.out.cell 10 (.string sb) (by rw[<-qy HS.o];rfl);have f10:=N9.out.free 10;clear rU))
 go_ret2;have HD:=Hd (N9.out.done H.o hn sj.o HX.1 HX.2 tN.o HV.o rfl rfl);exact⟨rfl,{A with ld:=qg A.ld n lb},rfl,HD.1.mono λ_ h=>.inl h,HD.2⟩
end
section
variable {w w' w0:ae} {F:Nat->Prop} {A:PA} {s:St} {n x:Nat} {pv cv:ah} {ld:ByteArray} {m:Mv}
theorem q1q (h:jg w F A s) (hm0:∀i,i<4->∀m,s.mv i=some m->uh m) (k:Int) (yR: -9223372036854775808<=k/\k<=9223372036854775807):
  ao prog 16 #[.pointer (some ⟨A.cl,0,none⟩),.int .i64 k] w (jv w F A (.tuple #[sv (nfV s k),.int .i64 (nxE s k)]) (nfS s k)):=by
 by_cases hk:k<0\/3<k
 ·exact q5p h k hk yR
 obtain⟨n,rfl⟩:∃n:Nat,k=n:=⟨k.toNat,by omega⟩
 have hn:n<4:=by omega
 cases eB:s.mv n with
 |none=>exact q5q h hn eB
 |some m=>
  cases fT:m.sent.isEmpty
  ·exact q5r h hn eB fT
  ·have L:=hm0 n hn m eB;by_cases h0:m.n=0
   ·exact q08 h hn eB fT L h0
   ·by_cases h1:m.ps=[]
    ·by_cases h2:m.cs=[]
     ·exact WO h hn eB fT L h0 h1 h2
     ·exact q07 h hn eB fT L h0 h1 h2
    ·exact q06 h hn eB fT L h0 h1
end
end
end Go.Proofs.Ytkpekiajdlolnaa.Ph
