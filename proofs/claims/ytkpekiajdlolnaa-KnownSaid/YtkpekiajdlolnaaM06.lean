/- PROVED: part 6 of the claim's ground. Conditions: those that each theorem names. -/
import Derived.Test.YtkpekiajdlolnaaM05
import Derived.Test.YtkpekiajdlolnaaM03
import Derived.Test.YtkpekiajdlolnaaM04
import Derived.Sort.MapsRangeIn
import Derived.Conc.CompanyDraw
set_option linter.unusedVariables false
set_option linter.unusedSimpArgs false
set_option maxRecDepth 100000
set_option maxHeartbeats 16000000
variable{R:(Nat->Go.Value)->Go.World->Prop} {f:Go.FuncId} {h i j lb n pb rb to:Nat} {o:Go.Oper} {ops:Array Go.Oper} {td:List Nat} {vs:Array Go.Value} {w:Go.World}
open Go.Proofs.Try
open Go.World renaming cell?→aa,frozen?→aq
open Go.ByteArray renaming toList_eq→ac
open Go renaming Value→ae,World→ag,wp_region_still_tail→al,Calls→ay,Frame→az,execOp→aA,wpStill_nil→aB,bodyPost_ret→aD,heap_alloc_old→aE,Operand→aH,yielded→aJ,TypeId→aK,maxLen→aL,FuncId→aU,undef→bj
open And renaming intro→ah
open Go.Region renaming ready→ai,wanted→au,binds→aI
open List renaming drop_succ_cons→aj,take_succ_cons→am,take_zero→av,drop_zero→aw,range→aF,length_drop→aO,length_take→aP,all_eq_true→aQ,mem_range→aW
open Go.Region.linearise renaming go→ak
open Bool renaming and_eq_true→ao
open Go.Instr renaming index→ax,lookup→aM
open Go.Act renaming mk→aC
open Go.Obj renaming cells→aG
namespace Go.Proofs.Ytkpekiajdlolnaa
namespace Ph
open Go.Conc Go.ConcN Go.RowKit Go.Maps Go.Conc.Lib Go Sim
section
variable {w w' w0:ag} {F:Nat->Prop} {A:PA} {s:St} {n x:Nat} {m:Mv}
theorem jg.mvg {m':Mv} {ld':ByteArray} {pv' cv':ae} (h:jg w F A s) (hn:n<4) (eB:s.mv n=some m) (qQ:A.mp n=some x) (hb:But (· =x) w w') (hx:w'.heap[x]?=some (.cells (qf n pv' cv' ld' m') 67 (0,0)))
  (hp:uV w pv' m'.ps) (hc:pJ w cv' m'.cs) (hpo:∀b,pv'.ownBlock=some b->(A.pv n).ownBlock=some b) (gy:∀b,cv'.ownBlock=some b->(A.cv n).ownBlock=some b):
  jg w' F {A with pv:=qg A.pv n pv',cv:=qg A.cv n cv',ld:=qg A.ld n ld'} {s with mv:=qg s.mv n (some m')}:=by
 have h0:=h.mv n hn;rw[eB]at h0;obtain⟨g,z1,z2,z3,z4,z5,z6,z7⟩:=h0;rw[qQ]at z1;cases z1;have lt:∀{b:Nat} {o:Obj},w.heap[b]?=some o->b<w.heap.size:=λhb=>(yc hb).1;have gJ:∀(b:Nat) (c:Array ae) (ty:aK),w.heap[b]?=some (aG c ty (0,0))->ty≠67->w'.heap[b]?=w.heap[b]?:=λb c ty eG n1=>hb.keep b (lt eG) λe=>by
  rw[e,z3]at eG;exact n1 (ku eG).symm
 have lZ:∀b,(∃es ck,w.heap[b]?=some (Obj.map es ck))->w'.heap[b]?=w.heap[b]?:=λb ⟨es,ck,eG⟩=>hb.keep b (lt eG) λe=>by
  rw[e,z3]at eG;cases eG
 refine⟨⟨h.cl.1,(gJ _ _ _ h.cl.2 (by decide)).trans h.cl.2⟩,λi hi=>⟨(h.db i hi).1,(gJ _ _ _ (h.db i hi).2 (by decide)).trans (h.db i hi).2⟩,λi hi=>⟨(h.mb i hi).1,?_⟩,h.mbi,λi hi=>?_,h.mpi,λi j q hi hj h1 h2=>?_,h.stg.keep (λb cur ty eG ht=>gJ b cur ty eG (by rcases ht with rfl|rfl<;>decide)) (λb eG _=>lZ b eG) (λ_ h=>h) rfl rfl rfl,h.smb⟩
 ·obtain⟨es,ck,eG,_⟩:=(h.mb i hi).2;exact(h.mb i hi).2.block (lZ _ ⟨es,ck,eG⟩)
 ·show jQ w' F _ i (qg s.mv n _ i);by_cases e:i=n
  ·subst e;rw[qp];have e1:qg A.pv i pv' i=pv':=qp ..;have e2:qg A.cv i cv' i=cv':=qp ..;have e3:qg A.ld i ld' i=ld':=qp ..;refine⟨x,qQ,z2,?_,?_,?_,λb hb=>?_,λb hb=>?_⟩
   ·rw[hx];show _=some (aG (qf i (qg A.pv i pv' i) (qg A.cv i cv' i) (qg A.ld i ld' i) m') _ _);rw[e1,e2,e3]
   ·show uV w' (qg A.pv i pv' i) m'.ps;rw[e1];exact hp.block λb hb=>by
     obtain⟨c,hc⟩:=jo.ty hp hb;exact gJ b c _ hc (by decide)
   ·show pJ w' (qg A.cv i cv' i) m'.cs;rw[e2];exact hc.block λb hb=>by
     obtain⟨c,hc⟩:=jo.ty hc hb;exact gJ b c _ hc (by decide)
   ·replace hb:(qg A.pv i pv' i).ownBlock=some b:=hb;rw[e1]at hb;exact z6 b (hpo b hb)
   ·replace hb:(qg A.cv i cv' i).ownBlock=some b:=hb;rw[e2]at hb;exact z7 b (gy b hb)
  ·rw[qj _ _ e];exact((h.mv i hi).keep (λb c iM eG=>hb.keep b (lt eG) λe2=>e (h.mpi i n b hi hn iM (by rw[qQ,e2]))) (λb c _ hb=>gJ b c _ hb (by decide)) (λb c _ hb=>gJ b c _ hb (by decide))).same rfl (qj _ _ e) (qj _ _ e) (qj _ _ e)
 ·have key:∀i,(qg A.cv n cv' i).ownBlock=some q->(A.cv i).ownBlock=some q:=λi h=>by
   by_cases e:i=n
   ·subst e;rw[qp]at h;exact gy q h
   ·rw[qj _ _ e]at h;exact h
  exact h.cvi i j q hi hj (key i h1) (key j h2)
def haA (A:PA) (k db mb:Nat):PA:={A with db:=qg A.db k db,mb:=qg A.mb k mb,mp:=qg A.mp k none,cv:=qg A.cv k (.slice none 0 0)}
def haS (s:St) (k to:Nat):St:={s with ow:=qg s.ow k to,kv:=lG s.kv k [],mv:=qg s.mv k none,ep:=s.ep+1}
theorem jg.hand {db1 mb1:Nat} (h:jg w F A s) (hn:n<4) (hb:But (· =A.cl) w w') (lK:w'.heap[A.cl]?=some (.cells (je (haA A n db1 mb1) (haS s n to)) 60 (0,0)))
  (Gp:w'.heap[db1]?=some (.cells #[.map (some mb1)] 109 (0,0))) (M6:jf w' mb1 []) (l1:w.heap.size<=db1) (l2:w.heap.size<=mb1):jg w' (λb=>F b\/w.heap.size<=b) (haA A n db1 mb1) (haS s n to):=by
 have lt:∀{b:Nat} {o:Obj},w.heap[b]?=some o->b<w.heap.size:=λhb=>(yc hb).1;have gJ:∀(b:Nat) (c:Array ae) (ty:aK),w.heap[b]?=some (aG c ty (0,0))->ty≠60->w'.heap[b]?=w.heap[b]?:=λb c ty eG n1=>hb.keep b (lt eG) λe=>by
  rw[e,h.cl.2]at eG;exact n1 (ku eG).symm
 have lZ:∀b,(∃es ck,w.heap[b]?=some (Obj.map es ck))->w'.heap[b]?=w.heap[b]?:=λb ⟨es,ck,eG⟩=>hb.keep b (lt eG) λe=>by
  rw[e,h.cl.2]at eG;cases eG
 have mlt:∀i,i<4->A.mb i<w.heap.size:=λi hi=>(h.mb i hi).2.lt;have hsm:=h.stg.m.lt;refine⟨⟨.inl h.cl.1,lK⟩,λi hi=>?_,λi hi=>?_,λi j hi hj e=>?_,λi hi=>?_,λi j g hi hj h1 h2=>?_,λi j g hi hj h1 h2=>?_,?_,λi hi=>?_⟩
 ·show(F (qg A.db n db1 i)\/w.heap.size<=qg A.db n db1 i)/\w'.heap[qg A.db n db1 i]?=some (.cells #[.map (some (qg A.mb n mb1 i))] _ _);by_cases e:i=n
  ·subst e;rw[qp,qp];exact⟨.inr l1,Gp⟩
  ·rw[qj _ _ e,qj _ _ e];exact⟨.inl (h.db i hi).1,(gJ _ _ _ (h.db i hi).2 (by decide)).trans (h.db i hi).2⟩
 ·show(F (qg A.mb n mb1 i)\/w.heap.size<=qg A.mb n mb1 i)/\jf w' (qg A.mb n mb1 i) (lG s.kv n [] i);by_cases e:i=n
  ·subst e;rw[qp,IZ];exact⟨.inr l2,M6⟩
  ·rw[qj _ _ e,FJ _ _ e];obtain⟨es,ck,eG,_⟩:=(h.mb i hi).2;exact⟨.inl (h.mb i hi).1,(h.mb i hi).2.block (lZ _ ⟨es,ck,eG⟩)⟩
 ·replace e:qg A.mb n mb1 i=qg A.mb n mb1 j:=e;by_cases e1:i=n
  ·by_cases e2:j=n
   ·omega
   ·subst e1;rw[qp,qj _ _ e2]at e;have:=mlt j hj;omega
  ·by_cases e2:j=n
   ·subst e2;rw[qp,qj _ _ e1]at e;have:=mlt i hi;omega
   ·rw[qj _ _ e1,qj _ _ e2]at e;exact h.mbi i j hi hj e
 ·show jQ w' _ (haA A n db1 mb1) i (qg s.mv n none i);by_cases e:i=n
  ·subst e;rw[qp];exact⟨qp ..,by show(qg A.cv i (.slice none 0 0) i).ownBlock=none;rw[qp];rfl⟩
  ·rw[qj _ _ e];exact(((h.mv i hi).keep (w':=w') (λb c _ hb=>gJ b c _ hb (by decide)) (λb c _ hb=>gJ b c _ hb (by decide)) (λb c _ hb=>gJ b c _ hb (by decide))).mono λ_ h=>.inl h).same (qj _ _ e) rfl (qj _ _ e) rfl
 ·replace h1:qg A.mp n none i=some g:=h1;replace h2:qg A.mp n none j=some g:=h2;by_cases e1:i=n
  ·subst e1;rw[qp]at h1;cases h1
  ·by_cases e2:j=n
   ·subst e2;rw[qp]at h2;cases h2
   ·rw[qj _ _ e1]at h1;rw[qj _ _ e2]at h2;exact h.mpi i j g hi hj h1 h2
 ·replace h1:(qg A.cv n (.slice none 0 0) i).ownBlock=some g:=h1;replace h2:(qg A.cv n (.slice none 0 0) j).ownBlock=some g:=h2;by_cases e1:i=n
  ·subst e1;rw[qp]at h1;cases h1
  ·by_cases e2:j=n
   ·subst e2;rw[qp]at h2;cases h2
   ·rw[qj _ _ e1]at h1;rw[qj _ _ e2]at h2;exact h.cvi i j g hi hj h1 h2
 ·have hk:=h.stg.keep (w':=w') (F':=λb=>F b\/w.heap.size<=b) (C:=A) (λb cur ty eG ht=>gJ b cur ty eG (by rcases ht with rfl|rfl<;>decide)) (λb eG _=>lZ b eG) (λ_ h=>.inl h) rfl rfl rfl;refine⟨hk.f,hk.m,hk.e,hk.i,λa b ha fH hz=>⟨(hk.n a b ha fH hz).1,λi hi=>?_⟩⟩;show qg A.mb n mb1 i≠_;by_cases e:i=n
  ·subst e;rw[qp];obtain⟨x,hx⟩:=Option.isSome_iff_exists.1 hz;have:=(h.stg.e a b x ha fH hx).2.m.lt;show mb1≠(A.sP a b).2.2;omega
  ·rw[qj _ _ e];exact(hk.n a b ha fH hz).2 i hi
 ·show qg A.mb n mb1 i≠A.sm;by_cases e:i=n
  ·subst e;rw[qp];omega
  ·rw[qj _ _ e];exact h.smb i hi
theorem jg.own {x:Sg} (h:jg w F A s) (hn:n<4) (ht:to<4) (hx:s.sg to n=some x) (eB:s.mv n=none) {w2:ag} (e2:w2=w.setCell ⟨A.cl,1+n*3+1,none⟩ (.pointer (some ⟨(A.sP to n).2.1,0,none⟩)))
  (hm:kz w' A.sm (yh (λh k=>(s.sg h k).map λ_=>(A.sP h k).1) to n none)) (hb:But (· =A.sm) w2 w'):
  jg w' F {A with db:=qg A.db n (A.sP to n).2.1,mb:=qg A.mb n (A.sP to n).2.2} {s with kv:=lG s.kv n x.kv,sg:=yh s.sg to n none}/\But F w w':=by
 have lt:∀{b:Nat} {o:Obj},w.heap[b]?=some o->b<w.heap.size:=λhb=>(yc hb).1;have hz:(s.sg to n).isSome=true:=by rw[hx];rfl
 obtain⟨⟨x1,x2,x3⟩,sx⟩:=h.stg.e to n x ht hn hx;have mR:But (λb=>b=A.cl\/b=A.sm) w w':=by
  refine(But.setCell (B:=λb=>b=A.cl\/b=A.sm) (But.refl _ _) (.inl rfl) (1+n*3+1) (.pointer (some ⟨(A.sP to n).2.1,0,none⟩))).trans ?_;rw[<-e2];exact hb.mono λb e=>.inr e
 have rQ:=xhs w A.cl (1+n*3+1) _ _ (.pointer (some ⟨(A.sP to n).2.1,0,none⟩)) h.cl.2;rw[<-e2]at rQ;have TD:∀(b:Nat) (c:Array ae) (ty:aK),w.heap[b]?=some (aG c ty (0,0))->b≠A.sm:=λb c ty eG=>h.stg.m.ty eG;have gJ:∀(b:Nat) (c:Array ae) (ty:aK),w.heap[b]?=some (aG c ty (0,0))->ty≠60->w'.heap[b]?=w.heap[b]?:=λb c ty eG n1=>mR.keep b (lt eG) λe=>by
  rcases e with e|e
  ·rw[e,h.cl.2]at eG;exact n1 (ku eG).symm
  ·exact TD b c ty eG e
 have lZ:∀b,(∃es ck,w.heap[b]?=some (Obj.map es ck))->b≠A.sm->w'.heap[b]?=w.heap[b]?:=λb ⟨es,ck,eG⟩ eD=>mR.keep b (lt eG) λe=>by
  rcases e with e|e
  ·rw[e,h.cl.2]at eG;cases eG
  ·exact eD e
 have mapOf:∀{mb:Nat} {L:KV},jf w mb L->∃es ck,w.heap[mb]?=some (Obj.map es ck):=λhm=>by
  obtain⟨es,ck,eG,_⟩:=hm;exact⟨es,ck,eG⟩
 refine⟨⟨⟨h.cl.1,?_⟩,λi hi=>?_,λi hi=>?_,λi j hi hj e=>?_,λi hi=>?_,h.mpi,h.cvi,⟨h.stg.f,?_,λa b y ha fH hy=>?_,λa b c d ha fH hc hd h1 h2 h3=>?_,λa b ha fH qK=>?_⟩,λi hi=>?_⟩,mR.mono λb e=>?_⟩
 ·have hc:w2.heap[A.cl]?=some _:=rQ;rw[hb.keep A.cl (yc hc).1 (TD _ _ _ h.cl.2),hc];have:(je A s).setIfInBounds (1+n*3+1) (.pointer (some ⟨(A.sP to n).2.1,0,none⟩))=je {A with db:=qg A.db n (A.sP to n).2.1,mb:=qg A.mb n (A.sP to n).2.2} {s with kv:=lG s.kv n x.kv,sg:=yh s.sg to n none}:=by
   match n,hn with
   |0,_|1,_|2,_|3,_=>rfl
  rw[this]
 ·show F (qg A.db n (A.sP to n).2.1 i)/\w'.heap[qg A.db n (A.sP to n).2.1 i]?=some (.cells #[.map (some (qg A.mb n (A.sP to n).2.2 i))] _ _);by_cases e:i=n
  ·subst e;rw[qp,qp];exact⟨x2,(gJ _ _ _ sx.d (by decide)).trans sx.d⟩
  ·rw[qj _ _ e,qj _ _ e];exact⟨(h.db i hi).1,(gJ _ _ _ (h.db i hi).2 (by decide)).trans (h.db i hi).2⟩
 ·show F (qg A.mb n (A.sP to n).2.2 i)/\jf w' (qg A.mb n (A.sP to n).2.2 i) (lG s.kv n x.kv i);by_cases e:i=n
  ·subst e;rw[qp,IZ];exact⟨x3,sx.m.block (lZ _ (mapOf sx.m) (λe=>(h.stg.n to i ht hn hz).1 e.symm))⟩
  ·rw[qj _ _ e,FJ _ _ e];exact⟨(h.mb i hi).1,(h.mb i hi).2.block (lZ _ (mapOf (h.mb i hi).2) (h.smb i hi))⟩
 ·replace e:qg A.mb n (A.sP to n).2.2 i=qg A.mb n (A.sP to n).2.2 j:=e;by_cases e1:i=n
  ·by_cases e2:j=n
   ·omega
   ·subst e1;rw[qp,qj _ _ e2]at e;exact absurd e.symm ((h.stg.n to i ht hn hz).2 j hj)
  ·by_cases e2:j=n
   ·subst e2;rw[qp,qj _ _ e1]at e;exact absurd e ((h.stg.n to j ht hn hz).2 i hi)
   ·rw[qj _ _ e1,qj _ _ e2]at e;exact h.mbi i j hi hj e
 ·have h0:=h.mv i hi;exact((h0.keep (w':=w') (λb c _ hb=>gJ b c _ hb (by decide)) (λb c _ hb=>gJ b c _ hb (by decide)) (λb c _ hb=>gJ b c _ hb (by decide)))).same rfl rfl rfl rfl
 ·have e:(yh (λh k=>(s.sg h k).map λ_=>(A.sP h k).1) to n none)=λh k=>(yh s.sg to n none h k).map λ_=>(A.sP h k).1:=by
   funext a b;by_cases e:a=to/\b=n
   ·obtain⟨rfl,rfl⟩:=e;rw[x9,x9];rfl
   ·rw[za e,za e]
  rw[e]at hm;exact hm
 ·replace hy:yh s.sg to n none a b=some y:=hy;by_cases e:a=to/\b=n
  ·obtain⟨rfl,rfl⟩:=e;rw[x9]at hy;cases hy
  ·rw[za e]at hy;obtain⟨f1,f2⟩:=h.stg.e a b y ha fH hy;exact⟨f1,(gJ _ _ _ f2.s (by decide)).trans f2.s,(gJ _ _ _ f2.d (by decide)).trans f2.d,f2.m.block (lZ _ (mapOf f2.m) (λe=>(h.stg.n a b ha fH (by rw[hy];rfl)).1 e.symm))⟩
 ·have old:∀a b,(yh s.sg to n none a b).isSome=true->(s.sg a b).isSome=true:=λa b e=>by
   by_cases e2:a=to/\b=n
   ·obtain⟨rfl,rfl⟩:=e2;rw[x9]at e;cases e
   ·rw[za e2]at e;exact e
  exact h.stg.i a b c d ha fH hc hd (old a b h1) (old c d h2) h3
 ·replace qK:(yh s.sg to n none a b).isSome=true:=qK;by_cases e2:a=to/\b=n
  ·obtain⟨rfl,rfl⟩:=e2;rw[x9]at qK;cases qK
  ·rw[za e2]at qK;refine⟨(h.stg.n a b ha fH qK).1,λi hi=>?_⟩;show qg A.mb n (A.sP to n).2.2 i≠_;by_cases e:i=n
   ·subst e;rw[qp];exact λe3=>e2 (by have:=h.stg.i a b to i ha fH ht hn qK hz (.inr e3.symm);exact this)
   ·rw[qj _ _ e];exact(h.stg.n a b ha fH qK).2 i hi
 ·show qg A.mb n (A.sP to n).2.2 i≠A.sm;by_cases e:i=n
  ·subst e;rw[qp];exact λe=>(h.stg.n to i ht hn hz).1 e.symm
  ·rw[qj _ _ e];exact h.smb i hi
 ·rcases e with e|e
  ·exact e▸h.cl.1
  ·exact e▸h.stg.f
end
section
variable {w w' w0:ag} {F:Nat->Prop} {A:PA} {s:St} {n x:Nat} {pv cv:ae} {ld:ByteArray} {m:Mv}
theorem NfW.stores {pv' cv':ae} {ld':ByteArray} {m':Mv} (h:NfW w0 x n pv cv ld m w) (i:Nat) (v:ae) (e:(qf n pv cv ld m).setIfInBounds i v=qf n pv' cv' ld' m'):NfW w0 x n pv' cv' ld' m' (w.setCell ⟨x,i,none⟩ v):=by
 have k:=xhs w x i _ _ v h.b;exact⟨k.trans (by rw[e]),But.setCell (B:=(· =x)) h.but rfl _ _⟩
theorem RG:∀(L:List Chg) (k:Nat),(kD L).drop (k*3)=kD (L.drop k)
 |L,0=>by simp
 |[],k+1=>by simp[kD]
 |c::L,k+1=>by
  rw[aj,<-RG L k,Nat.add_mul,Nat.one_mul];show List.drop (k*3+3) (sv c.k::sv c.v::.bool c.g::kD L)=_;simp
theorem V7 (h:jg w F A s) (hn:n<4) (eB:s.mv n=some m) (L:uh m) (h2:m.kind≠2) (h3:m.kind≠3) (h4:m.kind≠4):
  ay prog 31 #[.pointer (some ⟨A.cl,0,none⟩),.pointer (some ⟨A.cl,1+n*3,none⟩)] w (jv w F A (.tuple #[]) (akS s n m)):=by
 have hm:=h.mv n hn;have cV:=(h.part n hn).v;rw[eB]at hm;obtain⟨x,z1,z2,z3,z4,z5,_⟩:=hm;rw[z1]at cV;replace cV:w.cell? ⟨A.cl,1+n*3+2,none⟩=some (.pointer (some ⟨x,0,none⟩)):=cV;obtain⟨sb,fC⟩:∃b:ByteArray,b.data.toList=m.sent:=⟨⟨m.sent.toArray⟩,by simp⟩
 have yX:w.cell? ⟨x,10,none⟩=some (.string sb):=by rw[<-qy fC];simp[aa,z3,qf]
 have c2:w.cell? ⟨x,2,none⟩=some (.int .i64 m.to):=by simp[aa,z3,qf]
 have c5:w.cell? ⟨x,5,none⟩=some (.int .u8 m.kind):=by simp[aa,z3,qf]
 have c6:w.cell? ⟨x,6,none⟩=some (.int .i64 n):=by simp[aa,z3,qf]
 have c8:w.cell? ⟨x,8,none⟩=some (.int .i64 m.n):=by simp[aa,z3,qf]
 have J7:w.cell? ⟨x,11,none⟩=some (.int .i64 m.parts):=by simp[aa,z3,qf]
 have fr:∀j,w.frozen? ⟨x,j,none⟩=false:=λj=>by simp[aq,z3]
 have mJ:¬(9223372036854775807<m.n+1):=by have:=L.n;omega
 have H:=Hd h;have HX:=Hd (ah z1 z2);have sj:=Hd eB;have HL:=Hd L;have N0:Hid (NfW w x n (A.pv n) (A.cv n) (A.ld n) m w):=Hd ⟨z3,But.refl _ _⟩;have i2:((m.kind:Int)==2)=false:=by simp;omega
 have i3:((m.kind:Int)==3)=false:=by simp;omega
 have i4:((m.kind:Int)==4)=false:=by simp;omega
 have e0:akS s n m={s with mv:=qg s.mv n (some {m with sent:=[],n:=m.n+1})}:=by
  unfold akS akM;rw[if_neg h4,if_neg h2,if_neg h3]
 rw[e0];have N2:=Hd ((N0.out.store 10 (.string ⟨#[]⟩) (A.ld n) {m with sent:=[]} rfl).store 8 (.int .i64 ((m.n:Int)+1)) (A.ld n) {m with sent:=[],n:=m.n+1} rfl);clear h eB z1 z2 z3 z4 z5 fC L h2 h3 h4 e0;go_enter func31,ntmps31;go_wp2;go_end0;exact⟨rfl,{A with ld:=qg A.ld n (A.ld n)},rfl,(H.mvb hn sj.o HX.1 N2.out.but N2.out.b rfl rfl).mono λ_ h=>.inl h,N2.out.but.mono λb e=>e▸HX.2⟩
theorem V9 (h:jg w F A s) (hn:n<4) (eB:s.mv n=some m) (L:uh m) (hk:m.kind=2) (hp:m.parts<=m.ps.length):
  ay prog 31 #[.pointer (some ⟨A.cl,0,none⟩),.pointer (some ⟨A.cl,1+n*3,none⟩)] w (jv w F A (.tuple #[]) (akS s n m)):=by
 have hm:=h.mv n hn;have cV:=(h.part n hn).v;rw[eB]at hm;obtain⟨x,z1,z2,z3,z4,z5,_⟩:=hm;rw[z1]at cV;replace cV:w.cell? ⟨A.cl,1+n*3+2,none⟩=some (.pointer (some ⟨x,0,none⟩)):=cV;obtain⟨sb,fC⟩:∃b:ByteArray,b.data.toList=m.sent:=⟨⟨m.sent.toArray⟩,by simp⟩
 have yX:w.cell? ⟨x,10,none⟩=some (.string sb):=by rw[<-qy fC];simp[aa,z3,qf]
 have c2:w.cell? ⟨x,2,none⟩=some (.int .i64 m.to):=by simp[aa,z3,qf]
 have c5:w.cell? ⟨x,5,none⟩=some (.int .u8 m.kind):=by simp[aa,z3,qf]
 have c6:w.cell? ⟨x,6,none⟩=some (.int .i64 n):=by simp[aa,z3,qf]
 have c8:w.cell? ⟨x,8,none⟩=some (.int .i64 m.n):=by simp[aa,z3,qf]
 have J7:w.cell? ⟨x,11,none⟩=some (.int .i64 m.parts):=by simp[aa,z3,qf]
 have fr:∀j,w.frozen? ⟨x,j,none⟩=false:=λj=>by simp[aq,z3]
 have mJ:¬(9223372036854775807<m.n+1):=by have:=L.n;omega
 have H:=Hd h;have HX:=Hd (ah z1 z2);have sj:=Hd eB;have HL:=Hd L;have N0:Hid (NfW w x n (A.pv n) (A.cv n) (A.ld n) m w):=Hd ⟨z3,But.refl _ _⟩;have e0:akS s n m={s with mv:=qg s.mv n (some {m with sent:=[],ps:=m.ps.drop m.parts,n:=m.n+1})}:=by
  unfold akS akM;rw[if_neg (by omega),if_pos hk]
 rw[e0];obtain⟨sa,cp,q,q1,q2⟩:=jo.shape z4;have cR:w.cell? ⟨x,3,none⟩=some (.slice sa m.ps.length cp):=by rw[<-q];simp[aa,z3,qf]
 have i2:((m.kind:Int)==2)=true:=by simp[hk]
 have k1:decide ((m.parts:Int)<=m.ps.length)=true:=xdt (by omega);have k2:m.parts<=m.ps.length:=hp;have HR:=Hd z4;have HQ:=Hd q;have HK:=Hd (ah q1 q2);have gH:=HR.2;rw[HQ.o]at gH;have GN:Hid (sa=none/\m.ps.length=0\/∃g off,sa=some ⟨g,off,none⟩):=Hd (by
  rcases gH with⟨e,e2⟩|⟨g,off,cap,cur,e,_⟩
  ·injection e with a1 a2 a3;exact .inl ⟨a1,e2⟩
  ·injection e with a1 a2 a3;exact .inr ⟨g,off,a1⟩)
 have HO:=Hd z5;have HD:Hid (∀(W:ag) (nJ:Option Addr),W.heap[x]?=some (.cells (qf n (.slice nJ (m.ps.length-m.parts) (cp-m.parts)) (A.cv n) (A.ld n) {m with sent:=[],ps:=m.ps.drop m.parts,n:=m.n+1}) 67 (0,0))->But (· =x) w W->(∀g off,sa=some ⟨g,off,none⟩->nJ=if cp=m.parts then some ⟨g,off,none⟩else some ⟨g,off+m.parts*2,none⟩)->(sa=none->nJ=none)->
   jv w F A (.tuple #[]) {s with mv:=qg s.mv n (some {m with sent:=[],ps:=m.ps.drop m.parts,n:=m.n+1})} (.returned (.tuple #[])) W):=Hd λW nJ hW hb iR rQ=>by
  have hr:=HR.o;rw[HQ.o]at hr;have hc:=jo.cut hr k2 iR rQ;have oZ:uV w (.slice nJ (m.ps.length-m.parts) (cp-m.parts)) (m.ps.drop m.parts):=by
   unfold uV;rw[aO,show flat (m.ps.drop m.parts)=(flat m.ps).drop (m.parts*2)from(QY _ _).symm];exact hc
  have fe:∀b,(Value.slice nJ (m.ps.length-m.parts) (cp-m.parts)).ownBlock=some b->(A.pv n).ownBlock=some b:=λb fH=>by
   rw[HQ.o];rcases GN.o with⟨e,_⟩|⟨g,off,e⟩
   ·rw[rQ e]at fH;cases fH
   ·rw[iR g off e]at fH;rw[e];split at fH<;>exact fH
  exact⟨rfl,_,(rfl:({A with pv:=qg A.pv n _,cv:=qg A.cv n _,ld:=qg A.ld n _}:PA).cl=A.cl),(jg.mvg (w':=W) H.o hn sj.o HX.1 hb hW oZ HO.o fe (λ_ h=>h)).mono λ_ h=>.inl h,hb.mono λb e=>e▸HX.2⟩
 have HZ:Hid (w.heap[x]?=some (.cells (qf n (A.pv n) (A.cv n) (A.ld n) m) 67 (0,0))):=Hd z3;have N1:=Hd (N0.out.store 10 (.string ⟨#[]⟩) (A.ld n) {m with sent:=[]} rfl);obtain⟨W,hW⟩:∃W,w.setCell ⟨x,10,none⟩ (.string ⟨#[]⟩)=W:=⟨_,rfl⟩
 rw[hW]at N1;have HW:=Hd hW;clear hW;have d3:=N1.out.cell 3 (.slice sa m.ps.length cp) (by rw[<-q];rfl);have d8:=N1.out.cell 8 (.int .i64 m.n) rfl;have UI:=N1.out.cell 11 (.int .i64 m.parts) rfl;have df:=N1.out.free;clear h eB z1 z2 z3 z4 z5 fC L hk e0 q q1 q2 gH hp;rcases GN.o with⟨e,e2⟩|⟨g,off,e⟩
 ·subst e;have hz:=Hd e2;clear e2;go_enter func31,ntmps31;go_wp2;rw[HW.o];refine al 12 (by kernel_rfl) (by kernel_rfl) ?_;change wpStill _ _ W.drew (λa'=>wpList _ _ _ _ a' W.drew) _ _;simp only[am,av,aj,aw];repeat still_step
  refine aB ?_;go_wp2;go_end0;have N2:=(N1.out.stores 3 (.slice none (m.ps.length-m.parts) (cp-m.parts)) (cv':=A.cv n) (ld':=A.ld n) (m':={m with sent:=[],ps:=m.ps.drop m.parts}) rfl).stores 8 (.int .i64 ((m.n:Int)+1)) (ld':=A.ld n) (m':={m with sent:=[],ps:=m.ps.drop m.parts,n:=m.n+1}) rfl;exact HD.o _ none N2.b (by first|exact N2.but|exact N2.but.drew) (λg off e=>(by cases e)) (λ_=>rfl)
 ·subst e;go_enter func31,ntmps31;go_wp2;rw[HW.o];refine al 12 (by kernel_rfl) (by kernel_rfl) ?_;change wpStill _ _ W.drew (λa'=>wpList _ _ _ _ a' W.drew) _ _;simp only[am,av,aj,aw];repeat still_step
  refine aB ?_;go_wp2
  ·have Nj:cp=m.parts:=by omega
   have h0:cp-m.parts=0:=by omega
   have hD:=HD.o;rw[h0]at hD;go_end0;have N2:=(N1.out.stores 3 (.slice (some ⟨g,off,none⟩) (m.ps.length-m.parts) 0) (cv':=A.cv n) (ld':=A.ld n) (m':={m with sent:=[],ps:=m.ps.drop m.parts}) rfl).stores 8 (.int .i64 ((m.n:Int)+1)) (ld':=A.ld n) (m':={m with sent:=[],ps:=m.ps.drop m.parts,n:=m.n+1}) rfl;exact hD _ (some ⟨g,off,none⟩) N2.b (by first|exact N2.but|exact N2.but.drew) (λg off e=>(by cases e;first|rw[if_pos (by assumption)]|simp[*])) (λe=>(by cases e))
  ·have Nj:¬cp=m.parts:=by omega
   go_end0;have N2:=(N1.out.stores 3 (.slice (some ⟨g,off+m.parts*2,none⟩) (m.ps.length-m.parts) (cp-m.parts)) (cv':=A.cv n) (ld':=A.ld n) (m':={m with sent:=[],ps:=m.ps.drop m.parts}) rfl).stores 8 (.int .i64 ((m.n:Int)+1)) (ld':=A.ld n) (m':={m with sent:=[],ps:=m.ps.drop m.parts,n:=m.n+1}) rfl;exact HD.o _ (some ⟨g,off+m.parts*2,none⟩) N2.b (by first|exact N2.but|exact N2.but.drew) (λg off e=>(by cases e;first|rw[if_neg (by assumption)]|simp[*])) (λe=>(by cases e))
theorem V8 (h:jg w F A s) (hn:n<4) (eB:s.mv n=some m) (L:uh m) (hk:m.kind=3) (hp:m.parts<=m.cs.length):
  ay prog 31 #[.pointer (some ⟨A.cl,0,none⟩),.pointer (some ⟨A.cl,1+n*3,none⟩)] w (jv w F A (.tuple #[]) (akS s n m)):=by
 have hm:=h.mv n hn;have cV:=(h.part n hn).v;rw[eB]at hm;obtain⟨x,z1,z2,z3,z4,z5,_⟩:=hm;rw[z1]at cV;replace cV:w.cell? ⟨A.cl,1+n*3+2,none⟩=some (.pointer (some ⟨x,0,none⟩)):=cV;obtain⟨sb,fC⟩:∃b:ByteArray,b.data.toList=m.sent:=⟨⟨m.sent.toArray⟩,by simp⟩
 have yX:w.cell? ⟨x,10,none⟩=some (.string sb):=by rw[<-qy fC];simp[aa,z3,qf]
 have c2:w.cell? ⟨x,2,none⟩=some (.int .i64 m.to):=by simp[aa,z3,qf]
 have c5:w.cell? ⟨x,5,none⟩=some (.int .u8 m.kind):=by simp[aa,z3,qf]
 have c6:w.cell? ⟨x,6,none⟩=some (.int .i64 n):=by simp[aa,z3,qf]
 have c8:w.cell? ⟨x,8,none⟩=some (.int .i64 m.n):=by simp[aa,z3,qf]
 have J7:w.cell? ⟨x,11,none⟩=some (.int .i64 m.parts):=by simp[aa,z3,qf]
 have fr:∀j,w.frozen? ⟨x,j,none⟩=false:=λj=>by simp[aq,z3]
 have mJ:¬(9223372036854775807<m.n+1):=by have:=L.n;omega
 have H:=Hd h;have HX:=Hd (ah z1 z2);have sj:=Hd eB;have HL:=Hd L;have N0:Hid (NfW w x n (A.pv n) (A.cv n) (A.ld n) m w):=Hd ⟨z3,But.refl _ _⟩;have e0:akS s n m={s with mv:=qg s.mv n (some {m with sent:=[],cs:=m.cs.drop m.parts,n:=m.n+1})}:=by
  unfold akS akM;rw[if_neg (by omega),if_neg (by omega),if_pos hk]
 rw[e0];obtain⟨sa,cp,q,q1,q2⟩:=jo.shape z5;have cR:w.cell? ⟨x,4,none⟩=some (.slice sa m.cs.length cp):=by rw[<-q];simp[aa,z3,qf]
 have i2:((m.kind:Int)==2)=false:=by simp;omega
 have i3:((m.kind:Int)==3)=true:=by simp[hk]
 have k1:decide ((m.parts:Int)<=m.cs.length)=true:=xdt (by omega);have k2:m.parts<=m.cs.length:=hp;have HR:=Hd z5;have HQ:=Hd q;have HK:=Hd (ah q1 q2);have gH:=HR.2;rw[HQ.o]at gH;have GN:Hid (sa=none/\m.cs.length=0\/∃g off,sa=some ⟨g,off,none⟩):=Hd (by
  rcases gH with⟨e,e2⟩|⟨g,off,cap,cur,e,_⟩
  ·injection e with a1 a2 a3;exact .inl ⟨a1,e2⟩
  ·injection e with a1 a2 a3;exact .inr ⟨g,off,a1⟩)
 have HO:=Hd z4;have HD:Hid (∀(W:ag) (nJ:Option Addr),W.heap[x]?=some (.cells (qf n (A.pv n) (.slice nJ (m.cs.length-m.parts) (cp-m.parts)) (A.ld n) {m with sent:=[],cs:=m.cs.drop m.parts,n:=m.n+1}) 67 (0,0))->But (· =x) w W->(∀g off,sa=some ⟨g,off,none⟩->nJ=if cp=m.parts then some ⟨g,off,none⟩else some ⟨g,off+m.parts*3,none⟩)->(sa=none->nJ=none)->
   jv w F A (.tuple #[]) {s with mv:=qg s.mv n (some {m with sent:=[],cs:=m.cs.drop m.parts,n:=m.n+1})} (.returned (.tuple #[])) W):=Hd λW nJ hW hb iR rQ=>by
  have hr:=HR.o;rw[HQ.o]at hr;have hc:=jo.cut hr k2 iR rQ;have oZ:pJ w (.slice nJ (m.cs.length-m.parts) (cp-m.parts)) (m.cs.drop m.parts):=by
   unfold pJ;rw[aO,show kD (m.cs.drop m.parts)=(kD m.cs).drop (m.parts*3)from(RG _ _).symm];exact hc
  have fe:∀b,(Value.slice nJ (m.cs.length-m.parts) (cp-m.parts)).ownBlock=some b->(A.cv n).ownBlock=some b:=λb fH=>by
   rw[HQ.o];rcases GN.o with⟨e,_⟩|⟨g,off,e⟩
   ·rw[rQ e]at fH;cases fH
   ·rw[iR g off e]at fH;rw[e];split at fH<;>exact fH
  exact⟨rfl,_,(rfl:({A with pv:=qg A.pv n _,cv:=qg A.cv n _,ld:=qg A.ld n _}:PA).cl=A.cl),(jg.mvg (w':=W) H.o hn sj.o HX.1 hb hW HO.o oZ (λ_ h=>h) fe).mono λ_ h=>.inl h,hb.mono λb e=>e▸HX.2⟩
 have HZ:Hid (w.heap[x]?=some (.cells (qf n (A.pv n) (A.cv n) (A.ld n) m) 67 (0,0))):=Hd z3;have N1:=Hd (N0.out.store 10 (.string ⟨#[]⟩) (A.ld n) {m with sent:=[]} rfl);obtain⟨W,hW⟩:∃W,w.setCell ⟨x,10,none⟩ (.string ⟨#[]⟩)=W:=⟨_,rfl⟩
 rw[hW]at N1;have HW:=Hd hW;clear hW;have d3:=N1.out.cell 4 (.slice sa m.cs.length cp) (by rw[<-q];rfl);have d8:=N1.out.cell 8 (.int .i64 m.n) rfl;have UI:=N1.out.cell 11 (.int .i64 m.parts) rfl;have df:=N1.out.free;clear h eB z1 z2 z3 z4 z5 fC L hk e0 q q1 q2 gH hp;rcases GN.o with⟨e,e2⟩|⟨g,off,e⟩
 ·subst e;have hz:=Hd e2;clear e2;go_enter func31,ntmps31;go_wp2;rw[HW.o];refine al 12 (by kernel_rfl) (by kernel_rfl) ?_;change wpStill _ _ W.drew (λa'=>wpList _ _ _ _ a' W.drew) _ _;simp only[am,av,aj,aw];repeat still_step
  refine aB ?_;go_wp2;go_end0;have N2:=(N1.out.stores 4 (.slice none (m.cs.length-m.parts) (cp-m.parts)) (pv':=A.pv n) (ld':=A.ld n) (m':={m with sent:=[],cs:=m.cs.drop m.parts}) rfl).stores 8 (.int .i64 ((m.n:Int)+1)) (ld':=A.ld n) (m':={m with sent:=[],cs:=m.cs.drop m.parts,n:=m.n+1}) rfl;exact HD.o _ none N2.b (by first|exact N2.but|exact N2.but.drew) (λg off e=>(by cases e)) (λ_=>rfl)
 ·subst e;go_enter func31,ntmps31;go_wp2;rw[HW.o];refine al 12 (by kernel_rfl) (by kernel_rfl) ?_;change wpStill _ _ W.drew (λa'=>wpList _ _ _ _ a' W.drew) _ _;simp only[am,av,aj,aw];repeat still_step
  refine aB ?_;go_wp2
  ·have Nj:cp=m.parts:=by omega
   have h0:cp-m.parts=0:=by omega
   have hD:=HD.o;rw[h0]at hD;go_end0;have N2:=(N1.out.stores 4 (.slice (some ⟨g,off,none⟩) (m.cs.length-m.parts) 0) (pv':=A.pv n) (ld':=A.ld n) (m':={m with sent:=[],cs:=m.cs.drop m.parts}) rfl).stores 8 (.int .i64 ((m.n:Int)+1)) (ld':=A.ld n) (m':={m with sent:=[],cs:=m.cs.drop m.parts,n:=m.n+1}) rfl;exact hD _ (some ⟨g,off,none⟩) N2.b (by first|exact N2.but|exact N2.but.drew) (λg off e=>(by cases e;first|rw[if_pos (by assumption)]|simp[*])) (λe=>(by cases e))
  ·have Nj:¬cp=m.parts:=by omega
   go_end0;have N2:=(N1.out.stores 4 (.slice (some ⟨g,off+m.parts*3,none⟩) (m.cs.length-m.parts) (cp-m.parts)) (pv':=A.pv n) (ld':=A.ld n) (m':={m with sent:=[],cs:=m.cs.drop m.parts}) rfl).stores 8 (.int .i64 ((m.n:Int)+1)) (ld':=A.ld n) (m':={m with sent:=[],cs:=m.cs.drop m.parts,n:=m.n+1}) rfl;exact HD.o _ (some ⟨g,off+m.parts*3,none⟩) N2.b (by first|exact N2.but|exact N2.but.drew) (λg off e=>(by cases e;first|rw[if_neg (by assumption)]|simp[*])) (λe=>(by cases e))
end
section
variable {w w' w0:ag} {F:Nat->Prop} {A:PA} {s:St} {n x:Nat} {pv cv:ae} {ld:ByteArray} {m:Mv}
theorem Rf {α:Type} (f:Nat->α) (n:Nat) (a b:α):qg (qg f n a) n b=qg f n b:=by
 funext i;by_cases e:i=n
 ·subst e;rw[qp,qp]
 ·rw[qj _ _ e,qj _ _ e,qj _ _ e]
theorem KJ (h4:m.kind=4) (h:∀y,s.sg m.to n=some y->¬(y.id=m.id/\y.done=true)):akS s n m=haS {s with mv:=qg s.mv n (some {m with sent:=[]})} n m.to:=by
 have hk:hoK s n m=none:=by
  unfold hoK;cases ho:s.sg m.to n with
  |none=>rfl
  |some y=>exact if_neg (h y ho)
 unfold akS;rw[if_pos h4];unfold hoS haS;simp only[hk,Rf]
theorem ZQ {y:Sg} (h4:m.kind=4) (ho:s.sg m.to n=some y) (hi:y.id=m.id) (hd:y.done=true):akS s n m={haS {s with mv:=qg s.mv n (some {m with sent:=[]})} n m.to with kv:=lG (lG s.kv n []) n y.kv,sg:=yh s.sg m.to n none}:=by
 have hk:hoK s n m=some y:=by
  unfold hoK;rw[ho];exact if_pos ⟨hi,hd⟩
 have e:lG (lG s.kv n []) n y.kv=lG s.kv n y.kv:=by
  funext i;by_cases e:i=n
  ·subst e;rw[IZ,IZ]
  ·rw[FJ _ _ e,FJ _ _ e,FJ _ _ e]
 unfold akS;rw[if_pos h4,e];unfold hoS haS;simp only[hk,Rf]
structure HaW (w0:ag) (F:Nat->Prop) (A:PA) (s:St) (n x pb:Nat) (m:Mv) (w:ag):Prop where
 p:jg w F A s
 b:But F w0 w
 x0:w.cell? ⟨x,0,none⟩=some (.int .i64 m.id)
 x2:w.cell? ⟨x,2,none⟩=some (.int .i64 m.to)
 xt:x≠A.cl
 q0:w.cell? ⟨pb,0,none⟩=some (.int .i64 m.to)
 q1:w.cell? ⟨pb,1,none⟩=some (.int .i64 n)
 qt:pb≠A.cl
 l:w0.heap.size<=w.heap.size
theorem HaW.below (h:HaW w0 F A s n x pb m w) (hb:Below w.heap.size w w'):HaW w0 F A s n x pb m w':=
 ⟨h.p.below hb,h.b.trans (But.of_below hb),(hb.cell (xbl w _ h.x0)).trans h.x0,(hb.cell (xbl w _ h.x2)).trans h.x2,h.xt,(hb.cell (xbl w _ h.q0)).trans h.q0,(hb.cell (xbl w _ h.q1)).trans h.q1,h.qt,xlt h.l hb.size⟩
theorem HaW.cells {pb:Nat} (h:HaW w0 F A s n x pb m w) (hn:n<4):w.cell? ⟨A.cl,1+n*3,none⟩=some (.int .i64 (s.ow n))/\w.cell? ⟨A.cl,1+n*3+1,none⟩=some (ptr (some (A.db n)))/\w.cell? ⟨A.cl,1+n*3+2,none⟩=some (ptr (A.mp n))/\w.cell? ⟨A.cl,15,none⟩=some (.int .i64 s.ep)/\w.cell? ⟨A.cl,13,none⟩=some (.map (some A.sm))/\∀j,w.frozen? ⟨A.cl,j,none⟩=false:=by
 obtain⟨h1,h2,h3⟩:=FO A s n hn;exact⟨(h.p.cells _ _ h1).1,(h.p.cells _ _ h2).1,(h.p.cells _ _ h3).1,(h.p.cells 15 _ rfl).1,(h.p.cells 13 _ rfl).1,λj=>by simp[aq,h.p.cl.2]⟩
theorem HaW.made {w1 w2:ag} (h:HaW w0 F A s n x pb m w) (e:w2=nK w1) (hd:w1=w\/w1=w.drew:=by first|exact .inl rfl|exact .inr rfl):HaW w0 F A s n x pb m w2/\w.heap.size<w2.heap.size:=by
 have hz:w1.heap.size=w.heap.size:=by rcases hd with rfl|rfl<;>rfl
 have b1:Below w.heap.size w w2:=by
  subst e;rcases hd with rfl|rfl
  ·exact((zi _ _).alloc (jm _) _).alloc (by simp) _
  ·exact((zi _ _).drew.alloc (jm _) _).alloc (by simp) _
 exact⟨h.below b1,by subst e;unfold nK;simp;omega⟩
def ovW (w:ag) (cl n to:Nat) (ep:Int):ag:=((((nK w).setCell ⟨cl,1+n*3,none⟩ (.int .i64 to)).setCell ⟨cl,1+n*3+1,none⟩ (.pointer (some ⟨w.heap.size+1,0,none⟩))).setCell ⟨cl,1+n*3+2,none⟩ (.pointer none)).setCell ⟨cl,15,none⟩ (.int .i64 ep)
theorem VY (A:PA) (s:St) (hn:n<4) {db mb:Nat}:((((je A s).setIfInBounds (1+n*3) (.int .i64 to)).setIfInBounds (1+n*3+1) (.pointer (some ⟨db,0,none⟩))).setIfInBounds (1+n*3+2) (.pointer none)).setIfInBounds 15 (.int .i64 ((s.ep:Int)+1))=je (haA A n db mb) (haS s n to):=by
 match n,hn with
 |0,_=>simp[je,haA,haS,qg,ptr]
 |1,_=>simp[je,haA,haS,qg,ptr]
 |2,_=>simp[je,haA,haS,qg,ptr]
 |3,_=>simp[je,haA,haS,qg,ptr]
theorem HaW.over (h:HaW w0 F A s n x pb m w) (hn:n<4):HaW w0 (λb=>F b\/w0.heap.size<=b) (haA A n (w.heap.size+1) w.heap.size) (haS s n to) n x pb m (ovW w A.cl n to ((s.ep:Int)+1))/\But F w0 (ovW w A.cl n to ((s.ep:Int)+1)):=by
 have b1:Below w.heap.size w (nK w):=((zi _ _).alloc (jm _) _).alloc (by simp) _;have h1:=h.below b1;have m1:(nK w).heap[w.heap.size]?=some (.map #[] 0):=by unfold nK;rw[aE _ _ (by simp)];exact heap_alloc_new' _ _ rfl
 have c1:(nK w).heap[w.heap.size+1]?=some (.cells #[.map (some w.heap.size)] 109 (0,0)):=heap_alloc_new' _ _ (by simp);unfold ovW;generalize nK w=V at*;have lK:=h1.p.cl.2;have k1:=xhs V A.cl (1+n*3) _ _ (.int .i64 to) lK;have v1:But (· =A.cl) V (V.setCell ⟨A.cl,1+n*3,none⟩ (.int .i64 to)):=But.setCell (B:=(· =A.cl)) (But.refl _ _) rfl _ _;generalize V.setCell ⟨A.cl,1+n*3,none⟩ (.int .i64 to)=V1 at*;have k2:=xhs V1 A.cl (1+n*3+1) _ _ (.pointer (some ⟨w.heap.size+1,0,none⟩)) k1;have v2:But (· =A.cl) V (V1.setCell ⟨A.cl,1+n*3+1,none⟩ (.pointer (some ⟨w.heap.size+1,0,none⟩))):=But.setCell (B:=(· =A.cl)) v1 rfl _ _;generalize V1.setCell ⟨A.cl,1+n*3+1,none⟩ (.pointer (some ⟨w.heap.size+1,0,none⟩))=V2 at*;have k3:=xhs V2 A.cl (1+n*3+2) _ _ (.pointer none) k2;have v3:But (· =A.cl) V (V2.setCell ⟨A.cl,1+n*3+2,none⟩ (.pointer none)):=But.setCell (B:=(· =A.cl)) v2 rfl _ _;generalize V2.setCell ⟨A.cl,1+n*3+2,none⟩ (.pointer none)=V3 at*;have k4:=xhs V3 A.cl 15 _ _ (.int .i64 ((s.ep:Int)+1)) k3;have hb:But (· =A.cl) V (V3.setCell ⟨A.cl,15,none⟩ (.int .i64 ((s.ep:Int)+1))):=But.setCell (B:=(· =A.cl)) v3 rfl _ _;generalize V3.setCell ⟨A.cl,15,none⟩ (.int .i64 ((s.ep:Int)+1))=W5 at*;rw[VY A s hn (mb:=w.heap.size)]at k4;clear k1 k2 k3 v1 v2 v3;have D7:But (· =A.cl) w W5:=(But.of_below b1).trans hb;have TI:=h.p.clt;have lt1:∀{b:Nat} {o:Obj},V.heap[b]?=some o->b<V.heap.size:=λhb=>(yc hb).1;have hp:=jg.hand h.p (w':=W5) (to:=to) (db1:=w.heap.size+1) (mb1:=w.heap.size) hn D7 k4 ((hb.keep _ (lt1 c1) (by omega)).trans c1) (Lh ((hb.keep _ (lt1 m1) (by omega)).trans m1)) (by omega) (jm _);have far:∀b j v,b≠A.cl->V.cell? ⟨b,j,none⟩=some v->W5.cell? ⟨b,j,none⟩=some v:=λb j v e hv=>(xcb (hb.keep b (xbl _ _ hv) e)).trans hv;have hF:But F w0 W5:=h.b.trans (D7.mono λb e=>e▸h.p.cl.1);exact⟨⟨hp.mono λb e=>e.imp id λe=>xlt h.l e,hF.mono λb e=>.inl e,far _ _ _ h1.xt h1.x0,far _ _ _ h1.xt h1.x2,h1.xt,far _ _ _ h1.qt h1.q0,far _ _ _ h1.qt h1.q1,h1.qt,xlt h1.l hb.size⟩,hF⟩
theorem Xx (h:jg w F A s) (hn:n<4) (eB:s.mv n=some m) (L:uh m) (h4:m.kind=4) (F3:m.to<4) (Nc:s.ep<4611686018427387904):
  ay prog 31 #[.pointer (some ⟨A.cl,0,none⟩),.pointer (some ⟨A.cl,1+n*3,none⟩)] w (jv w F A (.tuple #[]) (akS s n m)):=by
 have hm:=h.mv n hn;have cV:=(h.part n hn).v;rw[eB]at hm;obtain⟨x,z1,z2,z3,z4,z5,_⟩:=hm;rw[z1]at cV;replace cV:w.cell? ⟨A.cl,1+n*3+2,none⟩=some (.pointer (some ⟨x,0,none⟩)):=cV;obtain⟨sb,fC⟩:∃b:ByteArray,b.data.toList=m.sent:=⟨⟨m.sent.toArray⟩,by simp⟩
 have yX:w.cell? ⟨x,10,none⟩=some (.string sb):=by rw[<-qy fC];simp[aa,z3,qf]
 have c2:w.cell? ⟨x,2,none⟩=some (.int .i64 m.to):=by simp[aa,z3,qf]
 have c5:w.cell? ⟨x,5,none⟩=some (.int .u8 m.kind):=by simp[aa,z3,qf]
 have c6:w.cell? ⟨x,6,none⟩=some (.int .i64 n):=by simp[aa,z3,qf]
 have c8:w.cell? ⟨x,8,none⟩=some (.int .i64 m.n):=by simp[aa,z3,qf]
 have J7:w.cell? ⟨x,11,none⟩=some (.int .i64 m.parts):=by simp[aa,z3,qf]
 have fr:∀j,w.frozen? ⟨x,j,none⟩=false:=λj=>by simp[aq,z3]
 have mJ:¬(9223372036854775807<m.n+1):=by have:=L.n;omega
 have H:=Hd h;have HX:=Hd (ah z1 z2);have sj:=Hd eB;have HL:=Hd L;have N0:Hid (NfW w x n (A.pv n) (A.cv n) (A.ld n) m w):=Hd ⟨z3,But.refl _ _⟩;have i2:((m.kind:Int)==2)=false:=by simp;omega
 have i3:((m.kind:Int)==3)=false:=by simp;omega
 have i4:((m.kind:Int)==4)=true:=by simp[h4]
 have N1:=Hd (N0.out.store 10 (.string ⟨#[]⟩) (A.ld n) {m with sent:=[]} rfl);obtain⟨W1,hW⟩:∃W,w.setCell ⟨x,10,none⟩ (.string ⟨#[]⟩)=W:=⟨_,rfl⟩
 rw[hW]at N1;have P1:=h.mvb (w':=W1) (ld':=A.ld n) (m':={m with sent:=[]}) hn eB z1 N1.out.but N1.out.b rfl rfl;have HW:=Hd hW;have xl:x<W1.heap.size:=(yc N1.out.b).1;have d0:=N1.out.cell 0 (.int .i64 m.id) rfl;have d2:=N1.out.cell 2 (.int .i64 m.to) rfl;have d6:=N1.out.cell 6 (.int .i64 n) rfl;have HK:Hid (HaW w F {A with ld:=qg A.ld n (A.ld n)} {s with mv:=qg s.mv n (some {m with sent:=[]})} n x W1.heap.size m (W1.alloc (.cells #[.int .i64 m.to,.int .i64 n] 93)).drew):=Hd (by
  have b1:Below W1.heap.size W1 (W1.alloc (.cells #[.int .i64 m.to,.int .i64 n] 93)).drew:=((zi _ _).alloc (jm _) _).drew;have TI:=P1.clt;refine⟨P1.below b1,(N1.out.but.mono λb e=>e▸z2).trans (But.of_below b1),(b1.cell xl).trans d0,(b1.cell xl).trans d2,λe=>?_,by go_simp,by go_simp,?_,xlt N1.out.but.size b1.size⟩
  ·have hb:=h.cl.2;rw[<-e,z3]at hb;exact absurd (ku hb) (by decide)
  ·exact λe=>absurd TI (by rw[<-e];exact Nat.lt_irrefl _))
 have HT:=Hd (ah h4 (ah F3 Nc));have hepb:¬(9223372036854775807<s.ep+1):=by omega
 clear P1 hW h eB z1 z2 z3 z4 z5 fC L h4 F3;go_enter func31,ntmps31;go_wp2;rw[HW.o];go_region;generalize (W1.alloc (.cells #[.int .i64 m.to,.int .i64 n] 93)).drew=W2 at HK⊢;obtain⟨pb,lJ⟩:∃pb,W1.heap.size=pb:=⟨_,rfl⟩
 rw[lJ]at HK⊢;clear HW N1 d0 d2 d6 xl c2 c5 c6 c8 yX J7 cV fr lJ;have e2:=HK.x2;obtain⟨f1,f2,f3,f4,f5,f6⟩:=HK.cells hn;have xt:=HK.xt;have xt2:A.cl≠x:=λe=>xt e.symm;go_wp2;go_region_with (first|(go_at_call 19;refine Lb.mono ?_;rintro e w2 ⟨rfl,h2⟩;have NT:=Hd (HK.made h2);have e22:=NT.1.x2;have hz:=NT.2;obtain⟨g1,g2,g3,g4,g5,g6⟩:=NT.1.cells hn;have H2:=Hd h2;clear h2))
 all_goals
  obtain⟨W5,Uy⟩:∃W5,(((w2.setCell ⟨A.cl,1+n*3,none⟩ (.int .i64 m.to)).setCell ⟨A.cl,1+n*3+1,none⟩ (.pointer (some ⟨W2.heap.size+1,0,none⟩))).setCell ⟨A.cl,1+n*3+2,none⟩ (.pointer none)).setCell ⟨A.cl,15,none⟩ (.int .i64 ((s.ep:Int)+1))=W5:=⟨_,rfl⟩
  have H5:Hid (HaW w (λb=>F b\/w.heap.size<=b) (haA {A with ld:=qg A.ld n (A.ld n)} n (W2.heap.size+1) W2.heap.size) (haS {s with mv:=qg s.mv n (some {m with sent:=[]})} n m.to) n x pb m W5/\But F w W5):=Hd (by
   rw[<-Uy];first
    |(rw[show w2=nK W2 from H2.o];exact HK.over (to:=m.to) hn)
    |(rw[show w2=nK W2.drew from H2.o];exact(HK.below (zi _ _).drew).over (to:=m.to) hn))
  have q0:=H5.1.q0;have q1:=H5.1.q1;have q2:=H5.1.x0;have q3:W5.cell? ⟨A.cl,13,none⟩=some (.map (some A.sm)):=(H5.1.p.cells 13 _ rfl).1;have hl:∀j,(aM 53 (.map (some A.sm)) (.agg #[.int .i64 m.to,.int .i64 n]) false).run prog (W5.drewN j)=.ok (ptr ((s.sg m.to n).map λ_=>(A.sP m.to n).1)) (W5.drewN j):=λj=>by
   have h9:=jg.look (H5.1.below (Below.drewN' (zi _ _) j)).p HT.2.1 hn;exact h9
  cases ho:s.sg m.to n with
  |none=>
   rw[ho]at hl;replace hl:∀j,(aM 53 (.map (some A.sm)) (.agg #[.int .i64 m.to,.int .i64 n]) false).run prog (W5.drewN j)=.ok (.pointer none) (W5.drewN j):=hl;go_wp2;go_quiet (fail);go_wp2;have D1:=Hd (ah (H5.1.below (Below.drewN' (zi _ _) nq)) (H5.2.drewN nq));generalize W5.drewN nq=V at D1⊢;go_quiet (fail);go_wp2;refine aD (results_none rfl _ _ _) rfl ?_;rw[KJ HT.1 (by rw[ho];exact λy e=>(by cases e))];exact⟨rfl,_,(rfl:(haA {A with ld:=qg A.ld n (A.ld n)} n (W2.heap.size+1) W2.heap.size).cl=A.cl),D1.1.p.below (Below.drewN' (zi _ _) nq),D1.2.drewN nq⟩
  |some y=>
   rw[ho]at hl;replace hl:∀j,(aM 53 (.map (some A.sm)) (.agg #[.int .i64 m.to,.int .i64 n]) false).run prog (W5.drewN j)=.ok (.pointer (some ⟨(A.sP m.to n).1,0,none⟩)) (W5.drewN j):=hl;have hst:iq W5 (A.sP m.to n).1 (A.sP m.to n).2.1 (A.sP m.to n).2.2 y.id y.next y.done y.kv:=(H5.1.p.stg.e m.to n y HT.2.1 hn ho).2;obtain⟨y0,_,y2,y3,_⟩:=hst.cells;by_cases hid:y.id=m.id
   ·have i5:((y.id:Int)==m.id)=true:=by simp[hid]
    cases hd:y.done
    ·rw[hd]at y3;go_wp2;go_quiet (fail);go_wp2;have D1:=Hd (ah (H5.1.below (Below.drewN' (zi _ _) nq)) (H5.2.drewN nq));go_quiet (fail);go_wp2;refine aD (results_none rfl _ _ _) rfl ?_;rw[KJ HT.1 (by rw[ho];exact λz e=>(by cases e;exact λh=>(by rw[hd]at h;exact absurd h.2 (by decide))))];exact⟨rfl,_,(rfl:(haA {A with ld:=qg A.ld n (A.ld n)} n (W2.heap.size+1) W2.heap.size).cl=A.cl),D1.1.p.below (Below.drewN' (zi _ _) nq),D1.2.drewN nq⟩
    ·rw[hd]at y3;go_wp2;go_quiet (fail);go_wp2;have D1:=Hd (ah (H5.1.below (Below.drewN' (zi _ _) nq)) (H5.2.drewN nq));go_quiet (fail);have D2:=Hd (ah (D1.1.below (Below.drewN' (zi _ _) nq)) (D1.2.drewN nq));generalize World.drewN (World.drewN W5 _) _=V at D2⊢;clear y0 y2 y3 hl q0 q1 q2 q3 hst g1 g2 g3 g4 g5 g6 Uy e22 hz e2 f1 f2 f3 f4 f5 f6;have y2:V.cell? ⟨(A.sP m.to n).1,2,none⟩=some (.pointer (some ⟨(A.sP m.to n).2.1,0,none⟩)):=((D2.1.p.stg.e m.to n y HT.2.1 hn ho).2.cells).2.2.1;obtain⟨v1,r1⟩:∃v,V.cell? ⟨A.cl,1+n*3+1,none⟩=some v:=⟨_,(D2.1.cells hn).2.1⟩
     have Vv:V.cell? ⟨A.cl,13,none⟩=some (.map (some A.sm)):=(D2.1.cells hn).2.2.2.2.1;have rf:∀j,V.frozen? ⟨A.cl,j,none⟩=false:=(D2.1.cells hn).2.2.2.2.2;obtain⟨W6,Nl⟩:∃W6,V.setCell ⟨A.cl,1+n*3+1,none⟩ (.pointer (some ⟨(A.sP m.to n).2.1,0,none⟩))=W6:=⟨_,rfl⟩
     have k6:But (· =A.cl) V W6:=by rw[<-Nl];exact But.setCell (B:=(· =A.cl)) (But.refl _ _) rfl _ _
     have p6:kz W6.drew A.sm (λh k=>(s.sg h k).map λ_=>(A.sP h k).1):=D2.1.p.stg.m.block (k6.keep A.sm D2.1.p.stg.m.lt (D2.1.p.stg.m.ty D2.1.p.cl.2).symm);have far:∀b j v,b≠A.cl->V.cell? ⟨b,j,none⟩=some v->W6.cell? ⟨b,j,none⟩=some v:=λb j v e hv=>(xcb (k6.keep b (xbl _ _ hv) e)).trans hv;have u0:=far _ _ _ D2.1.qt D2.1.q0;have u1:=far _ _ _ D2.1.qt D2.1.q1;have u13:W6.cell? ⟨A.cl,13,none⟩=some (.map (some A.sm)):=by
      rw[<-Nl];match n,hn with
      |0,_|1,_|2,_|3,_=>exact(World.cell?_setCell_other _ _ _ _ (by intro e;injection e with _ e2;exact absurd e2 (by decide))).trans Vv
     obtain⟨w9,dZ,Uf,rU⟩:=p6.del HT.2.1 hn 0;replace dZ:(Builtin.delete_ #[53,93] 0 #[.map (some A.sm),.agg #[.int .i64 m.to,.int .i64 n]]).run prog W6.drew=.ok (.tuple #[]) w9:=dZ;have H9:=Hd (jg.own D2.1.p hn HT.2.1 ho (qp ..) Nl.symm Uf ((But.refl _ _).drew.trans rU));clear far p6 k6 Uf rU;go_wp2;refine al 5 (by kernel_rfl) (by kernel_rfl) ?_;change wpStill _ _ W6.drew (λa'=>wpList _ _ _ _ a' W6.drew) _ _;simp only[am,av,aj,aw];repeat still_step
     refine aB ?_;go_wp2;refine aD (results_none rfl _ _ _) rfl ?_;rw[ZQ HT.1 ho hid hd];exact⟨rfl,_,(rfl:({haA {A with ld:=qg A.ld n (A.ld n)} n (W2.heap.size+1) W2.heap.size with db:=_,mb:=_}:PA).cl=A.cl),H9.1,D2.2.top H9.2 λb e=>e⟩
   ·have i5:((y.id:Int)==m.id)=false:=by simp;omega
    go_wp2;go_quiet (fail);go_wp2;have D1:=Hd (ah (H5.1.below (Below.drewN' (zi _ _) nq)) (H5.2.drewN nq));go_quiet (fail);go_wp2;refine aD (results_none rfl _ _ _) rfl ?_;rw[KJ HT.1 (by rw[ho];exact λz e=>(by cases e;exact λh=>hid h.1))];exact⟨rfl,_,(rfl:(haA {A with ld:=qg A.ld n (A.ld n)} n (W2.heap.size+1) W2.heap.size).cl=A.cl),D1.1.p.below (Below.drewN' (zi _ _) nq),D1.2.drewN nq⟩
end
section
variable {w w' w0:ag} {F:Nat->Prop} {A:PA} {s:St} {n x:Nat} {m:Mv}
structure SN (m:Mv):Prop where
 k2:m.kind=2->m.parts<=m.ps.length
 k3:m.kind=3->m.parts<=m.cs.length
theorem q23 (h:jg w F A s) (hn:n<4) (eB:s.mv n=some m) (L:uh m) (hk:SN m) (F3:m.to<4) (Nc:s.ep<4611686018427387904):
  ay prog 31 #[.pointer (some ⟨A.cl,0,none⟩),.pointer (some ⟨A.cl,1+n*3,none⟩)] w (jv w F A (.tuple #[]) (akS s n m)):=by
 by_cases h4:m.kind=4
 ·exact Xx h hn eB L h4 F3 Nc
 ·by_cases h2:m.kind=2
  ·exact V9 h hn eB L h2 (hk.k2 h2)
  ·by_cases h3:m.kind=3
   ·exact V8 h hn eB L h3 (hk.k3 h3)
   ·exact V7 h hn eB L h2 h3 h4
structure wL (s:St):Prop where
 hosts:s.hosts<=4
 kvr:∀i,i<4->wP (s.kv i)
 kvl:∀i,i<4->(s.kv i).length<=12
 kvk:∀i,i<4->∀p∈s.kv i,p.1.length<=aL
 id:s.id<=4611686018427387904
 ep:s.ep<4611686018427387904
 mv:∀i,i<4->∀m,s.mv i=some m->uh m/\m.to<4/\m.fr<4611686018427387904/\(m.sent≠[]->SN m)
structure RpW (w0:ag) (F:Nat->Prop) (A:PA) (s:St) (f:Fr) (fb:Nat) (w:ag):Prop where
 p:jg w F A s
 b:But (λ_=>False) w0 w
 fr:w.heap[fb]?=some (.cells #[.int .u8 f.kind,.int .i64 f.qd,.int .i64 f.id,.int .i64 f.n,sv f.load] 65 (0,0))
theorem RpW.drewN {f:Fr} {fb:Nat} (d:RpW w0 F A s f fb w) (n:Nat):RpW w0 F A s f fb (w.drewN n):=⟨d.p.idle (But.drewN (But.refl _ _) n),d.b.drewN n,d.fr⟩
theorem RpW.of {f:Fr} {ld:ByteArray} (p:jg w0 F A s) (hb:But (λ_=>False) w0 w) (fw:ld.data.toList=f.load):RpW w0 F A s f w.heap.size (w.alloc (.cells #[.int .u8 f.kind,.int .i64 f.qd,.int .i64 f.id,.int .i64 f.n,.string ld] 65)):=by
 have fJ:=hb.trans (But.of_below (B:=λ_=>False) ((zi w.heap.size w).alloc (jm _) (.cells #[.int .u8 f.kind,.int .i64 f.qd,.int .i64 f.id,.int .i64 f.n,.string ld] 65)));exact⟨p.idle fJ,fJ,by rw[heap_alloc_new,qy fw]⟩
theorem RpW.cells {f:Fr} {fb:Nat} {ld:ByteArray} (d:RpW w0 F A s f fb w) (fw:ld.data.toList=f.load):w.cell? ⟨fb,0,none⟩=some (.int .u8 f.kind)/\w.cell? ⟨fb,1,none⟩=some (.int .i64 f.qd)/\w.cell? ⟨fb,2,none⟩=some (.int .i64 f.id)/\w.cell? ⟨fb,3,none⟩=some (.int .i64 f.n)/\w.cell? ⟨fb,4,none⟩=some (.string ld):=by
 have h1:=d.fr;rw[qy fw]at h1;exact⟨by simp[aa,h1],by simp[aa,h1],by simp[aa,h1],by simp[aa,h1],by simp[aa,h1]⟩
theorem RpW.mv {f:Fr} {fb:Nat} (d:RpW w0 F A s f fb w) (hn:n<4) (hm:s.mv n=some m) (hx:A.mp n=some x) {sb:ByteArray} (hs:sb.data.toList=m.sent):w.cell? ⟨A.cl,1+n*3+2,none⟩=some (.pointer (some ⟨x,0,none⟩))/\w.cell? ⟨x,0,none⟩=some (.int .i64 m.id)/\w.cell? ⟨x,1,none⟩=some (.int .i64 m.fr)/\w.cell? ⟨x,2,none⟩=some (.int .i64 m.to)/\w.cell? ⟨x,8,none⟩=some (.int .i64 m.n)/\w.cell? ⟨x,10,none⟩=some (.string sb):=by
 have h0:=d.p.mv n hn;have cV:=(d.p.part n hn).v;rw[hm]at h0;obtain⟨g,z1,z2,z3,_⟩:=h0;rw[hx]at z1 cV;cases z1;refine⟨cV,by simp[aa,z3,qf],by simp[aa,z3,qf],by simp[aa,z3,qf],by simp[aa,z3,qf],?_⟩;rw[<-qy hs];simp[aa,z3,qf]
theorem RpW.none {f:Fr} {fb:Nat} (d:RpW w0 F A s f fb w) (hn:n<4) (hm:s.mv n=none):w.cell? ⟨A.cl,1+n*3+2,none⟩=some (.pointer none):=by
 have h0:=d.p.mv n hn;have h9:=(d.p.part n hn).v;rw[hm]at h0;rw[h0.1]at h9;exact h9
theorem RpW.idle {f:Fr} {fb:Nat} {v:ae} (d:RpW w0 F A s f fb w) (p0:jg w0 F A s) (hb:But (λ_=>False) w w'):jv w0 F A v s (.returned v) w':=.idleB p0 (d.b.trans hb)
theorem RpW.post {f:Fr} {fb:Nat} {v v':ae} {s':St} {e:Ending} (d:RpW w0 F A s f fb w) (h:jv w F A v s' e w'):jv w0 F A v' s' (.returned v') w':=by
 obtain⟨_,A',h1,h2,h3⟩:=h;exact⟨rfl,A',h1,h2.mono λb e=>e.imp id λe=>xlt d.b.size e,(d.b.mono λ_ x=>x.elim).trans h3⟩
end
section
variable {w w' w0:ag} {F:Nat->Prop} {A:PA} {s:St} {n x:Nat} {m:Mv}
theorem q56 (p:jg w F A s) (h:Int) (u:ByteArray) (ho:h<0\/s.hosts<=h):ay prog 15 #[.pointer (some ⟨A.cl,0,none⟩),.int .i64 h,.string u] w (jv w F A (.int .i64 1) s):=by
 have c0:w.cell? ⟨A.cl,0,none⟩=some (.int .i64 s.hosts):=(p.cells 0 _ rfl).1;have H:=Hd p;clear p;rcases Int.lt_or_le h 0 with h2|h2
 ·have g1:decide (h<0)=true:=xdt h2;go_enter func15,ntmps15;go_wp2;go_ret;exact .idle H.o (zi _ _)
 ·have g1:decide (h<0)=false:=xdf (by omega);have g2:decide ((s.hosts:Int)<=h)=true:=xdt (by omega);go_enter func15,ntmps15;go_wp2;go_ret;exact .idle H.o (zi _ _)
theorem q6b (p:jg w F A s) (hh:h<s.hosts) (u:ByteArray) (hu:u.size<=268435456) (gK:jZ u.data.toList=none):ay prog 15 #[.pointer (some ⟨A.cl,0,none⟩),.int .i64 h,.string u] w (jv w F A (.int .i64 0) s):=by
 have c0:w.cell? ⟨A.cl,0,none⟩=some (.int .i64 s.hosts):=(p.cells 0 _ rfl).1;have H:=Hd p;have g1:decide ((h:Int)<0)=false:=xdf (by omega);have g2:decide (s.hosts<=h)=false:=xdf (by omega);have HR:=Hd (uZ (w:=w) u (by omega));unfold jy at HR;rw[gK]at HR;clear p;go_enter func15,ntmps15;go_wp2_with (go_at_call 30;refine HR.mono ?_;rintro e w1 ⟨⟨f,rfl⟩,h1⟩;obtain⟨ld,fw⟩:=qh f.load;rw[rM fw];have B1:=Hd h1;clear h1 fw)
 go_ret;exact .idleB H.o (B1.trans (But.of_below ((zi _ _).alloc (jm _) _)))
theorem ja9 (p:jg w F A s) (hh:h<s.hosts) (u:ByteArray) (hu:u.size<=268435456) {f:Fr} (gK:jZ u.data.toList=some f) (fq:¬(f.qd<4/\f.load=[])):ay prog 15 #[.pointer (some ⟨A.cl,0,none⟩),.int .i64 h,.string u] w (jv w F A (.int .i64 0) s):=by
 have c0:w.cell? ⟨A.cl,0,none⟩=some (.int .i64 s.hosts):=(p.cells 0 _ rfl).1;have H:=Hd p;have g1:decide ((h:Int)<0)=false:=xdf (by omega);have g2:decide (s.hosts<=h)=false:=xdf (by omega);have HR:=Hd (uZ (w:=w) u (by omega));unfold jy at HR;rw[gK]at HR;obtain⟨ld,fw⟩:=qh f.load;have yu:=Hd fw;by_cases hs:f.qd<4
 ·have j1:decide ((4:Int)<=f.qd)=false:=xdf (by omega);have gL:ld.toList.isEmpty=false:=by
   rw[ac,fw];cases hl:f.load with
   |nil=>exact absurd ⟨hs,hl⟩ fq
   |cons=>rfl
  clear p gK fq fw;go_enter func15,ntmps15;go_wp2_with (go_at_call 30;refine HR.mono ?_;rintro e w1 ⟨rfl,h1⟩;rw[rM yu.out];have B1:=Hd h1;clear h1)
  go_ret;exact .idleB H.o (B1.trans (But.of_below ((zi _ _).alloc (jm _) _)))
 ·have j1:decide ((4:Int)<=f.qd)=true:=xdt (by omega);clear p gK fq fw;go_enter func15,ntmps15;go_wp2_with (go_at_call 30;refine HR.mono ?_;rintro e w1 ⟨rfl,h1⟩;rw[rM yu.out];have B1:=Hd h1;clear h1)
  go_ret;exact .idleB H.o (B1.trans (But.of_below ((zi _ _).alloc (jm _) _)))
end
section
variable {w w' w0:ag} {F:Nat->Prop} {A:PA} {s:St} {n x:Nat} {m:Mv}
theorem q58 (p:jg w F A s) (q:wL s) (hh:h<s.hosts) (u:ByteArray) (hu:u.size<=268435456) {f:Fr} (gK:jZ u.data.toList=some f) (hs:f.qd<4) (hl:f.load=[]) (hm:s.mv f.qd=none):ay prog 15 #[.pointer (some ⟨A.cl,0,none⟩),.int .i64 h,.string u] w (jv w F A (.int .i64 0) (s)):=by
 have c0:w.cell? ⟨A.cl,0,none⟩=some (.int .i64 s.hosts):=(p.cells 0 _ rfl).1;have H:=Hd p;have Q:=Hd q;have g1:decide ((h:Int)<0)=false:=xdf (by omega);have g2:decide (s.hosts<=h)=false:=xdf (by omega);have HR:=Hd (uZ (w:=w) u (by omega));unfold jy at HR;rw[gK]at HR;obtain⟨ld,fw⟩:=qh f.load;have yu:=Hd fw;have j0:(0:Int)<=f.qd:=by omega
 have j1:decide ((4:Int)<=f.qd)=false:=xdf (by omega);have j2:(f.qd:Int)<4:=by omega
 have gL:ld.toList.isEmpty=true:=by rw[ac,fw,hl];rfl
 have HS:=Hd (ah hs hh);have HM:=Hd hm;clear hm;clear p q gK fw hl hs;go_enter func15,ntmps15;go_wp2_with (go_at_call 30;refine HR.mono ?_;rintro e w1 ⟨rfl,h1⟩;rw[rM yu.out];have D:=Hd (RpW.of H.o h1 yu.out);clear h1)
 obtain⟨W,hW⟩:∃W,w1.alloc (.cells #[.int .u8 f.kind,.int .i64 f.qd,.int .i64 f.id,.int .i64 f.n,.string ld] 65)=W:=⟨_,rfl⟩
 rw[hW]at D⊢;clear hW;obtain⟨k0,k1,k2,k3,k4⟩:=D.cells yu.out;have cV:=D.none HS.1 HM.o;go_quiet (fail);have D1:=Hd (D.drewN nq);generalize W.drewN nq=V1 at D1⊢;clear k0 k1 k2 k3 k4 cV;obtain⟨k0,k1,k2,k3,k4⟩:=D1.cells yu.out;have cV:=D1.none HS.1 HM.o;go_wp2;go_quiet (fail);have D2:=Hd (D1.drewN nq);generalize V1.drewN nq=V2 at D2⊢;clear k0 k1 k2 k3 k4 cV;obtain⟨k0,k1,k2,k3,k4⟩:=D2.cells yu.out;have cV:=D2.none HS.1 HM.o;go_wp2;go_ret;exact D2.idle H.o (But.refl _ _)
theorem q57 (p:jg w F A s) (q:wL s) (hh:h<s.hosts) (u:ByteArray) (hu:u.size<=268435456) {f:Fr} (gK:jZ u.data.toList=some f) (hs:f.qd<4) (hl:f.load=[]) (hm:s.mv f.qd=some m) (jJ:m.fr≠h):ay prog 15 #[.pointer (some ⟨A.cl,0,none⟩),.int .i64 h,.string u] w (jv w F A (.int .i64 0) (s)):=by
 have c0:w.cell? ⟨A.cl,0,none⟩=some (.int .i64 s.hosts):=(p.cells 0 _ rfl).1;have H:=Hd p;have Q:=Hd q;have g1:decide ((h:Int)<0)=false:=xdf (by omega);have g2:decide (s.hosts<=h)=false:=xdf (by omega);have HR:=Hd (uZ (w:=w) u (by omega));unfold jy at HR;rw[gK]at HR;obtain⟨ld,fw⟩:=qh f.load;have yu:=Hd fw;have j0:(0:Int)<=f.qd:=by omega
 have j1:decide ((4:Int)<=f.qd)=false:=xdf (by omega);have j2:(f.qd:Int)<4:=by omega
 have gL:ld.toList.isEmpty=true:=by rw[ac,fw,hl];rfl
 have HS:=Hd (ah hs hh);have HM:=Hd hm;obtain⟨x,hx⟩:∃x,A.mp f.qd=some x:=by
  have h0:=p.mv f.qd hs;rw[hm]at h0;obtain⟨x,z1,_⟩:=h0;exact⟨x,z1⟩
 have HX:=Hd hx;obtain⟨sb,fC⟩:=qh m.sent;have iT:=Hd fC;have fT:sb.toList.isEmpty=m.sent.isEmpty:=by rw[ac,fC]
 have i1:((m.fr:Int) !=h)=true:=by simp;omega
 clear hm hx fC fT;clear p q gK fw hl hs;go_enter func15,ntmps15;go_wp2_with (go_at_call 30;refine HR.mono ?_;rintro e w1 ⟨rfl,h1⟩;rw[rM yu.out];have D:=Hd (RpW.of H.o h1 yu.out);clear h1)
 obtain⟨W,hW⟩:∃W,w1.alloc (.cells #[.int .u8 f.kind,.int .i64 f.qd,.int .i64 f.id,.int .i64 f.n,.string ld] 65)=W:=⟨_,rfl⟩
 rw[hW]at D⊢;clear hW;obtain⟨k0,k1,k2,k3,k4⟩:=D.cells yu.out;obtain⟨cV,x0,x1,x2,x8,gu⟩:=D.mv HS.1 HM.o HX.o iT.o;go_quiet (fail);have D1:=Hd (D.drewN nq);generalize W.drewN nq=V1 at D1⊢;clear k0 k1 k2 k3 k4 cV x0 x1 x2 x8 gu;obtain⟨k0,k1,k2,k3,k4⟩:=D1.cells yu.out;obtain⟨cV,x0,x1,x2,x8,gu⟩:=D1.mv HS.1 HM.o HX.o iT.o;go_wp2;go_quiet (fail);have D2:=Hd (D1.drewN nq);generalize V1.drewN nq=V2 at D2⊢;clear k0 k1 k2 k3 k4 cV x0 x1 x2 x8 gu;obtain⟨k0,k1,k2,k3,k4⟩:=D2.cells yu.out;obtain⟨cV,x0,x1,x2,x8,gu⟩:=D2.mv HS.1 HM.o HX.o iT.o;go_wp2;go_ret;exact D2.idle H.o (But.refl _ _)
theorem jin (p:jg w F A s) (q:wL s) (hh:h<s.hosts) (u:ByteArray) (hu:u.size<=268435456) {f:Fr} (gK:jZ u.data.toList=some f) (hs:f.qd<4) (hl:f.load=[]) (hm:s.mv f.qd=some m) (jJ:m.fr=h) (hid:m.id≠f.id):ay prog 15 #[.pointer (some ⟨A.cl,0,none⟩),.int .i64 h,.string u] w (jv w F A (.int .i64 0) (s)):=by
 have c0:w.cell? ⟨A.cl,0,none⟩=some (.int .i64 s.hosts):=(p.cells 0 _ rfl).1;have H:=Hd p;have Q:=Hd q;have g1:decide ((h:Int)<0)=false:=xdf (by omega);have g2:decide (s.hosts<=h)=false:=xdf (by omega);have HR:=Hd (uZ (w:=w) u (by omega));unfold jy at HR;rw[gK]at HR;obtain⟨ld,fw⟩:=qh f.load;have yu:=Hd fw;have j0:(0:Int)<=f.qd:=by omega
 have j1:decide ((4:Int)<=f.qd)=false:=xdf (by omega);have j2:(f.qd:Int)<4:=by omega
 have gL:ld.toList.isEmpty=true:=by rw[ac,fw,hl];rfl
 have HS:=Hd (ah hs hh);have HM:=Hd hm;obtain⟨x,hx⟩:∃x,A.mp f.qd=some x:=by
  have h0:=p.mv f.qd hs;rw[hm]at h0;obtain⟨x,z1,_⟩:=h0;exact⟨x,z1⟩
 have HX:=Hd hx;obtain⟨sb,fC⟩:=qh m.sent;have iT:=Hd fC;have fT:sb.toList.isEmpty=m.sent.isEmpty:=by rw[ac,fC]
 have i1:((m.fr:Int) !=h)=false:=by simp;omega
 have i2:((m.id:Int) !=f.id)=true:=by simp;omega
 clear hm hx fC fT;clear p q gK fw hl hs;go_enter func15,ntmps15;go_wp2_with (go_at_call 30;refine HR.mono ?_;rintro e w1 ⟨rfl,h1⟩;rw[rM yu.out];have D:=Hd (RpW.of H.o h1 yu.out);clear h1)
 obtain⟨W,hW⟩:∃W,w1.alloc (.cells #[.int .u8 f.kind,.int .i64 f.qd,.int .i64 f.id,.int .i64 f.n,.string ld] 65)=W:=⟨_,rfl⟩
 rw[hW]at D⊢;clear hW;obtain⟨k0,k1,k2,k3,k4⟩:=D.cells yu.out;obtain⟨cV,x0,x1,x2,x8,gu⟩:=D.mv HS.1 HM.o HX.o iT.o;go_quiet (fail);have D1:=Hd (D.drewN nq);generalize W.drewN nq=V1 at D1⊢;clear k0 k1 k2 k3 k4 cV x0 x1 x2 x8 gu;obtain⟨k0,k1,k2,k3,k4⟩:=D1.cells yu.out;obtain⟨cV,x0,x1,x2,x8,gu⟩:=D1.mv HS.1 HM.o HX.o iT.o;go_wp2;go_quiet (fail);have D2:=Hd (D1.drewN nq);generalize V1.drewN nq=V2 at D2⊢;clear k0 k1 k2 k3 k4 cV x0 x1 x2 x8 gu;obtain⟨k0,k1,k2,k3,k4⟩:=D2.cells yu.out;obtain⟨cV,x0,x1,x2,x8,gu⟩:=D2.mv HS.1 HM.o HX.o iT.o;go_wp2;go_ret;exact D2.idle H.o (But.refl _ _)
theorem q10 (p:jg w F A s) (q:wL s) (hh:h<s.hosts) (u:ByteArray) (hu:u.size<=268435456) {f:Fr} (gK:jZ u.data.toList=some f) (hs:f.qd<4) (hl:f.load=[]) (hm:s.mv f.qd=some m) (jJ:m.fr=h) (hid:m.id=f.id) (h6:f.kind=6):ay prog 15 #[.pointer (some ⟨A.cl,0,none⟩),.int .i64 h,.string u] w (jv w F A (.int .i64 0) (bgS s f.qd m.to)):=by
 have c0:w.cell? ⟨A.cl,0,none⟩=some (.int .i64 s.hosts):=(p.cells 0 _ rfl).1;have H:=Hd p;have Q:=Hd q;have g1:decide ((h:Int)<0)=false:=xdf (by omega);have g2:decide (s.hosts<=h)=false:=xdf (by omega);have HR:=Hd (uZ (w:=w) u (by omega));unfold jy at HR;rw[gK]at HR;obtain⟨ld,fw⟩:=qh f.load;have yu:=Hd fw;have j0:(0:Int)<=f.qd:=by omega
 have j1:decide ((4:Int)<=f.qd)=false:=xdf (by omega);have j2:(f.qd:Int)<4:=by omega
 have gL:ld.toList.isEmpty=true:=by rw[ac,fw,hl];rfl
 have HS:=Hd (ah hs hh);have HM:=Hd hm;obtain⟨x,hx⟩:∃x,A.mp f.qd=some x:=by
  have h0:=p.mv f.qd hs;rw[hm]at h0;obtain⟨x,z1,_⟩:=h0;exact⟨x,z1⟩
 have HX:=Hd hx;obtain⟨sb,fC⟩:=qh m.sent;have iT:=Hd fC;have fT:sb.toList.isEmpty=m.sent.isEmpty:=by rw[ac,fC]
 have i1:((m.fr:Int) !=h)=false:=by simp;omega
 have i2:((m.id:Int) !=f.id)=false:=by simp;omega
 have i6:((f.kind:Int)==6)=true:=by simp[h6]
 have PB:=Hd (λ(V:ag) (pv:jg V F A s)=>QF pv hs (q.kvr _ hs) (q.kvl _ hs) (q.kvk _ hs) m.to q.id);clear hm hx fC fT h6;clear p q gK fw hl hs;go_enter func15,ntmps15;go_wp2_with (go_at_call 30;refine HR.mono ?_;rintro e w1 ⟨rfl,h1⟩;rw[rM yu.out];have D:=Hd (RpW.of H.o h1 yu.out);clear h1)
 obtain⟨W,hW⟩:∃W,w1.alloc (.cells #[.int .u8 f.kind,.int .i64 f.qd,.int .i64 f.id,.int .i64 f.n,.string ld] 65)=W:=⟨_,rfl⟩
 rw[hW]at D⊢;clear hW;obtain⟨k0,k1,k2,k3,k4⟩:=D.cells yu.out;obtain⟨cV,x0,x1,x2,x8,gu⟩:=D.mv HS.1 HM.o HX.o iT.o;go_quiet (fail);have D1:=Hd (D.drewN nq);generalize W.drewN nq=V1 at D1⊢;clear k0 k1 k2 k3 k4 cV x0 x1 x2 x8 gu;obtain⟨k0,k1,k2,k3,k4⟩:=D1.cells yu.out;obtain⟨cV,x0,x1,x2,x8,gu⟩:=D1.mv HS.1 HM.o HX.o iT.o;go_wp2;go_quiet (fail);have D2:=Hd (D1.drewN nq);generalize V1.drewN nq=V2 at D2⊢;clear k0 k1 k2 k3 k4 cV x0 x1 x2 x8 gu;obtain⟨k0,k1,k2,k3,k4⟩:=D2.cells yu.out;obtain⟨cV,x0,x1,x2,x8,gu⟩:=D2.mv HS.1 HM.o HX.o iT.o;go_wp2;refine al 8 (by kernel_rfl) (by kernel_rfl) ?_;change wpStill _ _ V2.drew (λa'=>wpList _ _ _ _ a' V2.drew) _ _;simp only[am,av,aj,aw];repeat still_step
 refine aB ?_;go_wp2_with (go_at_call 28;refine(PB.out _ (D2.drewN 1).p).mono ?_;rintro e w5 h5;have H5:=Hd h5;obtain⟨he,_⟩:=h5;subst he)
 go_ret;exact(D2.drewN 1).post H5.o
theorem q59 (p:jg w F A s) (q:wL s) (hh:h<s.hosts) (u:ByteArray) (hu:u.size<=268435456) {f:Fr} (gK:jZ u.data.toList=some f) (hs:f.qd<4) (hl:f.load=[]) (hm:s.mv f.qd=some m) (jJ:m.fr=h) (hid:m.id=f.id) (h6:f.kind≠6) (h5:f.kind≠5):ay prog 15 #[.pointer (some ⟨A.cl,0,none⟩),.int .i64 h,.string u] w (jv w F A (.int .i64 0) (s)):=by
 have c0:w.cell? ⟨A.cl,0,none⟩=some (.int .i64 s.hosts):=(p.cells 0 _ rfl).1;have H:=Hd p;have Q:=Hd q;have g1:decide ((h:Int)<0)=false:=xdf (by omega);have g2:decide (s.hosts<=h)=false:=xdf (by omega);have HR:=Hd (uZ (w:=w) u (by omega));unfold jy at HR;rw[gK]at HR;obtain⟨ld,fw⟩:=qh f.load;have yu:=Hd fw;have j0:(0:Int)<=f.qd:=by omega
 have j1:decide ((4:Int)<=f.qd)=false:=xdf (by omega);have j2:(f.qd:Int)<4:=by omega
 have gL:ld.toList.isEmpty=true:=by rw[ac,fw,hl];rfl
 have HS:=Hd (ah hs hh);have HM:=Hd hm;obtain⟨x,hx⟩:∃x,A.mp f.qd=some x:=by
  have h0:=p.mv f.qd hs;rw[hm]at h0;obtain⟨x,z1,_⟩:=h0;exact⟨x,z1⟩
 have HX:=Hd hx;obtain⟨sb,fC⟩:=qh m.sent;have iT:=Hd fC;have fT:sb.toList.isEmpty=m.sent.isEmpty:=by rw[ac,fC]
 have i1:((m.fr:Int) !=h)=false:=by simp;omega
 have i2:((m.id:Int) !=f.id)=false:=by simp;omega
 have i6:((f.kind:Int)==6)=false:=by simp;omega
 have i5:((f.kind:Int)==5)=false:=by simp;omega
 clear hm hx fC fT;clear p q gK fw hl hs;go_enter func15,ntmps15;go_wp2_with (go_at_call 30;refine HR.mono ?_;rintro e w1 ⟨rfl,h1⟩;rw[rM yu.out];have D:=Hd (RpW.of H.o h1 yu.out);clear h1)
 obtain⟨W,hW⟩:∃W,w1.alloc (.cells #[.int .u8 f.kind,.int .i64 f.qd,.int .i64 f.id,.int .i64 f.n,.string ld] 65)=W:=⟨_,rfl⟩
 rw[hW]at D⊢;clear hW;obtain⟨k0,k1,k2,k3,k4⟩:=D.cells yu.out;obtain⟨cV,x0,x1,x2,x8,gu⟩:=D.mv HS.1 HM.o HX.o iT.o;go_quiet (fail);have D1:=Hd (D.drewN nq);generalize W.drewN nq=V1 at D1⊢;clear k0 k1 k2 k3 k4 cV x0 x1 x2 x8 gu;obtain⟨k0,k1,k2,k3,k4⟩:=D1.cells yu.out;obtain⟨cV,x0,x1,x2,x8,gu⟩:=D1.mv HS.1 HM.o HX.o iT.o;go_wp2;go_quiet (fail);have D2:=Hd (D1.drewN nq);generalize V1.drewN nq=V2 at D2⊢;clear k0 k1 k2 k3 k4 cV x0 x1 x2 x8 gu;obtain⟨k0,k1,k2,k3,k4⟩:=D2.cells yu.out;obtain⟨cV,x0,x1,x2,x8,gu⟩:=D2.mv HS.1 HM.o HX.o iT.o;go_wp2;go_quiet (fail);have D3:=Hd (D2.drewN nq);generalize V2.drewN nq=V3 at D3⊢;clear k0 k1 k2 k3 k4 cV x0 x1 x2 x8 gu;obtain⟨k0,k1,k2,k3,k4⟩:=D3.cells yu.out;obtain⟨cV,x0,x1,x2,x8,gu⟩:=D3.mv HS.1 HM.o HX.o iT.o;go_wp2;go_ret;exact D3.idle H.o (But.refl _ _)
theorem q1y (p:jg w F A s) (q:wL s) (hh:h<s.hosts) (u:ByteArray) (hu:u.size<=268435456) {f:Fr} (gK:jZ u.data.toList=some f) (hs:f.qd<4) (hl:f.load=[]) (hm:s.mv f.qd=some m) (jJ:m.fr=h) (hid:m.id=f.id) (h5:f.kind=5) (he:m.sent=[]):ay prog 15 #[.pointer (some ⟨A.cl,0,none⟩),.int .i64 h,.string u] w (jv w F A (.int .i64 0) (s)):=by
 have c0:w.cell? ⟨A.cl,0,none⟩=some (.int .i64 s.hosts):=(p.cells 0 _ rfl).1;have H:=Hd p;have Q:=Hd q;have g1:decide ((h:Int)<0)=false:=xdf (by omega);have g2:decide (s.hosts<=h)=false:=xdf (by omega);have HR:=Hd (uZ (w:=w) u (by omega));unfold jy at HR;rw[gK]at HR;obtain⟨ld,fw⟩:=qh f.load;have yu:=Hd fw;have j0:(0:Int)<=f.qd:=by omega
 have j1:decide ((4:Int)<=f.qd)=false:=xdf (by omega);have j2:(f.qd:Int)<4:=by omega
 have gL:ld.toList.isEmpty=true:=by rw[ac,fw,hl];rfl
 have HS:=Hd (ah hs hh);have HM:=Hd hm;obtain⟨x,hx⟩:∃x,A.mp f.qd=some x:=by
  have h0:=p.mv f.qd hs;rw[hm]at h0;obtain⟨x,z1,_⟩:=h0;exact⟨x,z1⟩
 have HX:=Hd hx;obtain⟨sb,fC⟩:=qh m.sent;have iT:=Hd fC;have fT:sb.toList.isEmpty=m.sent.isEmpty:=by rw[ac,fC]
 have i1:((m.fr:Int) !=h)=false:=by simp;omega
 have i2:((m.id:Int) !=f.id)=false:=by simp;omega
 have i6:((f.kind:Int)==6)=false:=by simp;omega
 have i5:((f.kind:Int)==5)=true:=by simp[h5]
 replace fT:sb.toList.isEmpty=true:=by rw[fT,he];rfl
 clear hm hx fC h5;clear p q gK fw hl hs;go_enter func15,ntmps15;go_wp2_with (go_at_call 30;refine HR.mono ?_;rintro e w1 ⟨rfl,h1⟩;rw[rM yu.out];have D:=Hd (RpW.of H.o h1 yu.out);clear h1)
 obtain⟨W,hW⟩:∃W,w1.alloc (.cells #[.int .u8 f.kind,.int .i64 f.qd,.int .i64 f.id,.int .i64 f.n,.string ld] 65)=W:=⟨_,rfl⟩
 rw[hW]at D⊢;clear hW;obtain⟨k0,k1,k2,k3,k4⟩:=D.cells yu.out;obtain⟨cV,x0,x1,x2,x8,gu⟩:=D.mv HS.1 HM.o HX.o iT.o;go_quiet (fail);have D1:=Hd (D.drewN nq);generalize W.drewN nq=V1 at D1⊢;clear k0 k1 k2 k3 k4 cV x0 x1 x2 x8 gu;obtain⟨k0,k1,k2,k3,k4⟩:=D1.cells yu.out;obtain⟨cV,x0,x1,x2,x8,gu⟩:=D1.mv HS.1 HM.o HX.o iT.o;go_wp2;go_quiet (fail);have D2:=Hd (D1.drewN nq);generalize V1.drewN nq=V2 at D2⊢;clear k0 k1 k2 k3 k4 cV x0 x1 x2 x8 gu;obtain⟨k0,k1,k2,k3,k4⟩:=D2.cells yu.out;obtain⟨cV,x0,x1,x2,x8,gu⟩:=D2.mv HS.1 HM.o HX.o iT.o;go_wp2;go_quiet (fail);have D3:=Hd (D2.drewN nq);generalize V2.drewN nq=V3 at D3⊢;clear k0 k1 k2 k3 k4 cV x0 x1 x2 x8 gu;obtain⟨k0,k1,k2,k3,k4⟩:=D3.cells yu.out;obtain⟨cV,x0,x1,x2,x8,gu⟩:=D3.mv HS.1 HM.o HX.o iT.o;go_wp2;go_ret;exact D3.idle H.o (But.refl _ _)
theorem q6a (p:jg w F A s) (q:wL s) (hh:h<s.hosts) (u:ByteArray) (hu:u.size<=268435456) {f:Fr} (gK:jZ u.data.toList=some f) (hs:f.qd<4) (hl:f.load=[]) (hm:s.mv f.qd=some m) (jJ:m.fr=h) (hid:m.id=f.id) (h5:f.kind=5) (he:m.sent≠[]) (hn:f.n≠m.n):ay prog 15 #[.pointer (some ⟨A.cl,0,none⟩),.int .i64 h,.string u] w (jv w F A (.int .i64 0) (s)):=by
 have c0:w.cell? ⟨A.cl,0,none⟩=some (.int .i64 s.hosts):=(p.cells 0 _ rfl).1;have H:=Hd p;have Q:=Hd q;have g1:decide ((h:Int)<0)=false:=xdf (by omega);have g2:decide (s.hosts<=h)=false:=xdf (by omega);have HR:=Hd (uZ (w:=w) u (by omega));unfold jy at HR;rw[gK]at HR;obtain⟨ld,fw⟩:=qh f.load;have yu:=Hd fw;have j0:(0:Int)<=f.qd:=by omega
 have j1:decide ((4:Int)<=f.qd)=false:=xdf (by omega);have j2:(f.qd:Int)<4:=by omega
 have gL:ld.toList.isEmpty=true:=by rw[ac,fw,hl];rfl
 have HS:=Hd (ah hs hh);have HM:=Hd hm;obtain⟨x,hx⟩:∃x,A.mp f.qd=some x:=by
  have h0:=p.mv f.qd hs;rw[hm]at h0;obtain⟨x,z1,_⟩:=h0;exact⟨x,z1⟩
 have HX:=Hd hx;obtain⟨sb,fC⟩:=qh m.sent;have iT:=Hd fC;have fT:sb.toList.isEmpty=m.sent.isEmpty:=by rw[ac,fC]
 have i1:((m.fr:Int) !=h)=false:=by simp;omega
 have i2:((m.id:Int) !=f.id)=false:=by simp;omega
 have i6:((f.kind:Int)==6)=false:=by simp;omega
 have i5:((f.kind:Int)==5)=true:=by simp[h5]
 replace fT:sb.toList.isEmpty=false:=by
  rw[fT];cases hq:m.sent with
  |nil=>exact absurd hq he
  |cons=>rfl
 have i7:((f.n:Int)==m.n)=false:=by simp;omega
 clear hm hx fC h5;clear p q gK fw hl hs;go_enter func15,ntmps15;go_wp2_with (go_at_call 30;refine HR.mono ?_;rintro e w1 ⟨rfl,h1⟩;rw[rM yu.out];have D:=Hd (RpW.of H.o h1 yu.out);clear h1)
 obtain⟨W,hW⟩:∃W,w1.alloc (.cells #[.int .u8 f.kind,.int .i64 f.qd,.int .i64 f.id,.int .i64 f.n,.string ld] 65)=W:=⟨_,rfl⟩
 rw[hW]at D⊢;clear hW;obtain⟨k0,k1,k2,k3,k4⟩:=D.cells yu.out;obtain⟨cV,x0,x1,x2,x8,gu⟩:=D.mv HS.1 HM.o HX.o iT.o;go_quiet (fail);have D1:=Hd (D.drewN nq);generalize W.drewN nq=V1 at D1⊢;clear k0 k1 k2 k3 k4 cV x0 x1 x2 x8 gu;obtain⟨k0,k1,k2,k3,k4⟩:=D1.cells yu.out;obtain⟨cV,x0,x1,x2,x8,gu⟩:=D1.mv HS.1 HM.o HX.o iT.o;go_wp2;go_quiet (fail);have D2:=Hd (D1.drewN nq);generalize V1.drewN nq=V2 at D2⊢;clear k0 k1 k2 k3 k4 cV x0 x1 x2 x8 gu;obtain⟨k0,k1,k2,k3,k4⟩:=D2.cells yu.out;obtain⟨cV,x0,x1,x2,x8,gu⟩:=D2.mv HS.1 HM.o HX.o iT.o;go_wp2;go_quiet (fail);have D3:=Hd (D2.drewN nq);generalize V2.drewN nq=V3 at D3⊢;clear k0 k1 k2 k3 k4 cV x0 x1 x2 x8 gu;obtain⟨k0,k1,k2,k3,k4⟩:=D3.cells yu.out;obtain⟨cV,x0,x1,x2,x8,gu⟩:=D3.mv HS.1 HM.o HX.o iT.o;go_wp2;go_ret;exact D3.idle H.o (But.refl _ _)
theorem ja8 (p:jg w F A s) (q:wL s) (hh:h<s.hosts) (u:ByteArray) (hu:u.size<=268435456) {f:Fr} (gK:jZ u.data.toList=some f) (hs:f.qd<4) (hl:f.load=[]) (hm:s.mv f.qd=some m) (jJ:m.fr=h) (hid:m.id=f.id) (h5:f.kind=5) (he:m.sent≠[]) (hn:f.n=m.n):ay prog 15 #[.pointer (some ⟨A.cl,0,none⟩),.int .i64 h,.string u] w (jv w F A (.int .i64 0) (akS s f.qd m)):=by
 have c0:w.cell? ⟨A.cl,0,none⟩=some (.int .i64 s.hosts):=(p.cells 0 _ rfl).1;have H:=Hd p;have Q:=Hd q;have g1:decide ((h:Int)<0)=false:=xdf (by omega);have g2:decide (s.hosts<=h)=false:=xdf (by omega);have HR:=Hd (uZ (w:=w) u (by omega));unfold jy at HR;rw[gK]at HR;obtain⟨ld,fw⟩:=qh f.load;have yu:=Hd fw;have j0:(0:Int)<=f.qd:=by omega
 have j1:decide ((4:Int)<=f.qd)=false:=xdf (by omega);have j2:(f.qd:Int)<4:=by omega
 have gL:ld.toList.isEmpty=true:=by rw[ac,fw,hl];rfl
 have HS:=Hd (ah hs hh);have HM:=Hd hm;obtain⟨x,hx⟩:∃x,A.mp f.qd=some x:=by
  have h0:=p.mv f.qd hs;rw[hm]at h0;obtain⟨x,z1,_⟩:=h0;exact⟨x,z1⟩
 have HX:=Hd hx;obtain⟨sb,fC⟩:=qh m.sent;have iT:=Hd fC;have fT:sb.toList.isEmpty=m.sent.isEmpty:=by rw[ac,fC]
 have i1:((m.fr:Int) !=h)=false:=by simp;omega
 have i2:((m.id:Int) !=f.id)=false:=by simp;omega
 have i6:((f.kind:Int)==6)=false:=by simp;omega
 have i5:((f.kind:Int)==5)=true:=by simp[h5]
 replace fT:sb.toList.isEmpty=false:=by
  rw[fT];cases hq:m.sent with
  |nil=>exact absurd hq he
  |cons=>rfl
 have i7:((f.n:Int)==m.n)=true:=by simp[hn]
 have PA:=Hd (λ(V:ag) (pv:jg V F A s)=>q23 pv hs hm (q.mv _ hs m hm).1 ((q.mv _ hs m hm).2.2.2 he) (q.mv _ hs m hm).2.1 q.ep);clear hm hx fC h5 hn;clear p q gK fw hl hs;go_enter func15,ntmps15;go_wp2_with (go_at_call 30;refine HR.mono ?_;rintro e w1 ⟨rfl,h1⟩;rw[rM yu.out];have D:=Hd (RpW.of H.o h1 yu.out);clear h1)
 obtain⟨W,hW⟩:∃W,w1.alloc (.cells #[.int .u8 f.kind,.int .i64 f.qd,.int .i64 f.id,.int .i64 f.n,.string ld] 65)=W:=⟨_,rfl⟩
 rw[hW]at D⊢;clear hW;obtain⟨k0,k1,k2,k3,k4⟩:=D.cells yu.out;obtain⟨cV,x0,x1,x2,x8,gu⟩:=D.mv HS.1 HM.o HX.o iT.o;go_quiet (fail);have D1:=Hd (D.drewN nq);generalize W.drewN nq=V1 at D1⊢;clear k0 k1 k2 k3 k4 cV x0 x1 x2 x8 gu;obtain⟨k0,k1,k2,k3,k4⟩:=D1.cells yu.out;obtain⟨cV,x0,x1,x2,x8,gu⟩:=D1.mv HS.1 HM.o HX.o iT.o;go_wp2;go_quiet (fail);have D2:=Hd (D1.drewN nq);generalize V1.drewN nq=V2 at D2⊢;clear k0 k1 k2 k3 k4 cV x0 x1 x2 x8 gu;obtain⟨k0,k1,k2,k3,k4⟩:=D2.cells yu.out;obtain⟨cV,x0,x1,x2,x8,gu⟩:=D2.mv HS.1 HM.o HX.o iT.o;go_wp2;go_quiet (fail);have D3:=Hd (D2.drewN nq);generalize V2.drewN nq=V3 at D3⊢;clear k0 k1 k2 k3 k4 cV x0 x1 x2 x8 gu;obtain⟨k0,k1,k2,k3,k4⟩:=D3.cells yu.out;obtain⟨cV,x0,x1,x2,x8,gu⟩:=D3.mv HS.1 HM.o HX.o iT.o;go_wp2_with (go_at_call 31;refine(PA.out _ D3.p).mono ?_;rintro e w5 h5;have H5:=Hd h5;obtain⟨he,_⟩:=h5;subst he)
 go_ret;exact D3.post H5.o
theorem q1r (p:jg w F A s) (q:wL s) (h:Int) (u:ByteArray) (hu:u.size<=268435456):
  ay prog 15 #[.pointer (some ⟨A.cl,0,none⟩),.int .i64 h,.string u] w (jv w F A (.int .i64 (rpE s h)) (rpS s h u.data.toList)):=by
 unfold rpE rpS;by_cases ho:h<0\/s.hosts<=h
 ·rw[if_pos ho,if_pos ho];exact q56 p h u ho
 ·rw[if_neg ho,if_neg ho];obtain⟨h,rfl⟩:∃n:Nat,h=n:=⟨h.toNat,by omega⟩
  have hh:h<s.hosts:=by omega
  rw[Int.toNat_natCast];cases gK:jZ u.data.toList with
  |none=>exact q6b p hh u hu gK
  |some f=>
   simp only;unfold rpF;by_cases fu:f.qd<4/\f.load=[]
   ·rw[if_pos fu];obtain⟨hs,hl⟩:=fu;cases hm:s.mv f.qd with
    |none=>exact q58 p q hh u hu gK hs hl hm
    |some m=>
     simp only;by_cases h1:m.fr=h/\m.id=f.id
     ·rw[if_pos h1];by_cases h6:f.kind=6
      ·rw[if_pos h6];exact q10 p q hh u hu gK hs hl hm h1.1 h1.2 h6
      ·rw[if_neg h6];by_cases h5:f.kind=5
       ·by_cases he:m.sent=[]
        ·rw[if_neg (λx=>x.2.1 he)];exact q1y p q hh u hu gK hs hl hm h1.1 h1.2 h5 he
        ·by_cases hn:f.n=m.n
         ·rw[if_pos ⟨h5,he,hn⟩];exact ja8 p q hh u hu gK hs hl hm h1.1 h1.2 h5 he hn
         ·rw[if_neg (λx=>hn x.2.2)];exact q6a p q hh u hu gK hs hl hm h1.1 h1.2 h5 he hn
       ·rw[if_neg (λx=>h5 x.1)];exact q59 p q hh u hu gK hs hl hm h1.1 h1.2 h6 h5
     ·rw[if_neg h1];by_cases jJ:m.fr=h
      ·exact jin p q hh u hu gK hs hl hm jJ (λe=>h1 ⟨jJ,e⟩)
      ·exact q57 p q hh u hu gK hs hl hm jJ
   ·rw[if_neg fu];exact ja9 p hh u hu gK fu
end
def lkO (s:St) (j i:Nat):Int:=if i<j then s.ow i else 0
def lkM (s:St) (j i:Nat):Bool:=if i<j then(s.mv i).isSome else false
def lkS (s:St) (j i:Nat):Bool:=if i<j then sO (s.mv i)else false
def zT (s:St) (j:Nat):Array ae:=#[.int .i64 s.ep,.int .i64 (lkO s j 0),.int .i64 (lkO s j 1),.int .i64 (lkO s j 2),.int .i64 (lkO s j 3),.bool (lkM s j 0),.bool (lkM s j 1),.bool (lkM s j 2),.bool (lkM s j 3),.bool (lkS s j 0),.bool (lkS s j 1),.bool (lkS s j 2),.bool (lkS s j 3)]
section
variable {w w':ag} {F:Nat->Prop} {A:PA} {s:St}
theorem XJ (s:St):∀j,j<4->(((zT s j).setIfInBounds (1+j) (.int .i64 (s.ow j))).setIfInBounds (5+j) (.bool (s.mv j).isSome)).setIfInBounds (9+j) (.bool (sO (s.mv j)))=zT s (j+1)
 |0,_=>rfl
 |1,_=>rfl
 |2,_=>rfl
 |3,_=>rfl
 |j+4,h=>absurd h (by omega)
theorem Xd (a0 a1 a2 a3 a4 a5 a6 a7 a8 a9 oV tK:ae) (W:ag):(ax 58 (.agg #[a0,a1,a2,a3,a4,a5,a6,a7,a8,a9,oV,tK]) (.int .i64 0)).run prog W=.ok (.agg #[a0,a1,a2]) W:=by
 have hu:=underlying58;have hS:=Try.sizeOf57;have hA:=Try.isAgg57;simp[ax,part,go_sem,hu,hS,hA]
theorem Xc (a0 a1 a2 a3 a4 a5 a6 a7 a8 a9 oV tK:ae) (W:ag):(ax 58 (.agg #[a0,a1,a2,a3,a4,a5,a6,a7,a8,a9,oV,tK]) (.int .i64 1)).run prog W=.ok (.agg #[a3,a4,a5]) W:=by
 have hu:=underlying58;have hS:=Try.sizeOf57;have hA:=Try.isAgg57;simp[ax,part,go_sem,hu,hS,hA]
theorem Xb (a0 a1 a2 a3 a4 a5 a6 a7 a8 a9 oV tK:ae) (W:ag):(ax 58 (.agg #[a0,a1,a2,a3,a4,a5,a6,a7,a8,a9,oV,tK]) (.int .i64 2)).run prog W=.ok (.agg #[a6,a7,a8]) W:=by
 have hu:=underlying58;have hS:=Try.sizeOf57;have hA:=Try.isAgg57;simp[ax,part,go_sem,hu,hS,hA]
theorem Xa (a0 a1 a2 a3 a4 a5 a6 a7 a8 a9 oV tK:ae) (W:ag):(ax 58 (.agg #[a0,a1,a2,a3,a4,a5,a6,a7,a8,a9,oV,tK]) (.int .i64 3)).run prog W=.ok (.agg #[a9,oV,tK]) W:=by
 have hu:=underlying58;have hS:=Try.sizeOf57;have hA:=Try.isAgg57;simp[ax,part,go_sem,hu,hS,hA]
structure LkW (w0:ag) (s:St) (rb lb j:Nat) (w:ag):Prop where
 b:w.heap[lb]?=some (.cells (zT s j) 33 (0,0))
 r:w.heap[rb]?=some (.cells #[.int .i64 0,.int .i64 0,.int .i64 0,.int .i64 0,.int .i64 0,.bool false,.bool false,.bool false,.bool false,.bool false,.bool false,.bool false,.bool false] 33 (0,0))
 lo:w0.heap.size<=rb
 ne:rb<lb
 below:Below w0.heap.size w0 w
theorem LkW.lt (h:LkW w s rb lb j w'):lb<w'.heap.size:=(yc h.b).1
theorem LkW.cell (h:LkW w s rb lb j w') (k:Nat) (v:ae) (hv:(zT s j)[k]?=some v):w'.cell? ⟨lb,k,none⟩=some v/\w'.frozen? ⟨lb,k,none⟩=false:=⟨by simp[aa,h.b,hv],by simp[aq,h.b]⟩
theorem LkW.next (h:LkW w s rb lb j w') (hj:j<4) (o:Obj):LkW w s rb lb (j+1) ((((w'.setCell ⟨lb,1+j,none⟩ (.int .i64 (s.ow j))).setCell ⟨lb,5+j,none⟩ (.bool (s.mv j).isSome)).setCell ⟨lb,9+j,none⟩ (.bool (sO (s.mv j)))).alloc o):=by
 have s1:=xhs w' lb (1+j) _ _ (.int .i64 (s.ow j)) h.b;have s2:=xhs _ lb (5+j) _ _ (.bool (s.mv j).isSome) s1;have s3:=xhs _ lb (9+j) _ _ (.bool (sO (s.mv j))) s2;have lT:=h.lo;have eD:=h.ne;have dW:=h.lt;have fZ:=((h.below.setCell (by show w.heap.size<=lb;omega) (.int .i64 (s.ow j)) (p:=⟨lb,1+j,none⟩)).setCell (by show w.heap.size<=lb;omega) (.bool (s.mv j).isSome) (p:=⟨lb,5+j,none⟩)).setCell (by show w.heap.size<=lb;omega) (.bool (sO (s.mv j))) (p:=⟨lb,9+j,none⟩);refine⟨?_,?_,h.lo,h.ne,fZ.alloc fZ.size o⟩
 ·rw[aE _ o (by simpa using dW),s3,XJ s j hj]
 ·have hn:rb≠lb:=by omega
  rw[aE _ o (by simp;omega),xho _ _ _ _ hn,xho _ _ _ _ hn,xho _ _ _ _ hn];exact h.r
theorem q5y (h:jg w F A s):ay prog 7 #[.pointer (some ⟨A.cl,0,none⟩)] w λe w'=>e=.returned (.agg (zT s 4))/\Below w.heap.size w w':=by
 have H:=Hd h;have cl:=λj v hj=>(h.cells j v hj).1;have d0:w.cell? ⟨A.cl,1,none⟩=some (.int .i64 (s.ow 0)):=cl 1 _ rfl;have d1:w.cell? ⟨A.cl,2,none⟩=some (.pointer (some ⟨A.db 0,0,none⟩)):=cl 2 _ rfl;have d2:w.cell? ⟨A.cl,3,none⟩=some (.pointer (mpA (A.mp 0))):=by rw[<-E9];exact cl 3 _ rfl
 have d3:w.cell? ⟨A.cl,4,none⟩=some (.int .i64 (s.ow 1)):=cl 4 _ rfl;have d4:w.cell? ⟨A.cl,5,none⟩=some (.pointer (some ⟨A.db 1,0,none⟩)):=cl 5 _ rfl;have d5:w.cell? ⟨A.cl,6,none⟩=some (.pointer (mpA (A.mp 1))):=by rw[<-E9];exact cl 6 _ rfl
 have d6:w.cell? ⟨A.cl,7,none⟩=some (.int .i64 (s.ow 2)):=cl 7 _ rfl;have d7:w.cell? ⟨A.cl,8,none⟩=some (.pointer (some ⟨A.db 2,0,none⟩)):=cl 8 _ rfl;have d8:w.cell? ⟨A.cl,9,none⟩=some (.pointer (mpA (A.mp 2))):=by rw[<-E9];exact cl 9 _ rfl
 have d9:w.cell? ⟨A.cl,10,none⟩=some (.int .i64 (s.ow 3)):=cl 10 _ rfl;have J6:w.cell? ⟨A.cl,11,none⟩=some (.pointer (some ⟨A.db 3,0,none⟩)):=cl 11 _ rfl;have UI:w.cell? ⟨A.cl,12,none⟩=some (.pointer (mpA (A.mp 3))):=by rw[<-E9];exact cl 12 _ rfl
 have d15:w.cell? ⟨A.cl,15,none⟩=some (.int .i64 s.ep):=cl 15 _ rfl;have dW:=h.clt;clear h cl;go_enter func7,ntmps7;go_wp2;go_loopw [15] (λx wr=>∃j:Nat,j<=4/\x=.int .i64 j/\Hid (LkW w s w.heap.size (w.heap.size+1) j wr)) (λx _=>4-(intOf x).toNat);case atStart=>
  refine⟨0,by omega,rfl,Hd ⟨?_,?_,jm _,by omega,((zi _ _).alloc (jm _) _).alloc (by simp) _⟩⟩
  ·exact heap_alloc_new' _ _ (by simp)
  ·rw[aE _ _ (by simp)];exact heap_alloc_new' _ _ rfl
 case round=>
  obtain⟨j,hj,rfl,HL⟩:=hrel;have NS:=HL.lt;rcases(show j=0\/j=1\/j=2\/j=3\/j=4 by omega)with rfl|rfl|rfl|rfl|rfl
  ·have hm:=H.mv 0 (by decide);obtain⟨q1,f1⟩:=HL.cell 1 _ rfl;obtain⟨q2,f2⟩:=HL.cell 5 _ rfl;obtain⟨q3,f3⟩:=HL.cell 9 _ rfl;have HX:=Hd (HL.next (by decide));have M9:=Xd;cases eB:s.mv 0 with
   |none=>
    rw[eB]at hm;rw[eB]at HX;rw[show mpA (A.mp 0)=none by rw[hm.1];rfl];clear hm eB;go_wp2;go_roundw;case rel=>exact⟨1,by omega,rfl,Hd (HX.o _)⟩
    case measure=>simp[intOf]
   |some m=>
    rw[eB]at hm;rw[eB]at HX;obtain⟨x,z1,z2,z3,_⟩:=hm;rw[show mpA (A.mp 0)=some ⟨x,0,none⟩ by rw[z1];rfl];have zl:x<w.heap.size:=(yc z3).1;have zs:wr.cell? ⟨x,12,none⟩=some (.bool m.sealed):=(HL.below.cell (p:=⟨x,12,none⟩) zl).trans (by simp[aa,z3,qf]);have zn:x<wr.heap.size:=xll zl HL.below.size;have Kg:x≠w.heap.size+1:=by omega
    have HY:Hid (sO (some m)=m.sealed):=Hd rfl;clear z1 z2 z3 eB;go_wp2;go_roundw;case rel=>exact⟨1,by omega,rfl,Hd (HX.o _)⟩
    case measure=>simp[intOf]
  ·have hm:=H.mv 1 (by decide);obtain⟨q1,f1⟩:=HL.cell 2 _ rfl;obtain⟨q2,f2⟩:=HL.cell 6 _ rfl;obtain⟨q3,f3⟩:=HL.cell 10 _ rfl;have HX:=Hd (HL.next (by decide));have M9:=Xc;cases eB:s.mv 1 with
   |none=>
    rw[eB]at hm;rw[eB]at HX;rw[show mpA (A.mp 1)=none by rw[hm.1];rfl];clear hm eB;go_wp2;go_roundw;case rel=>exact⟨2,by omega,rfl,Hd (HX.o _)⟩
    case measure=>simp[intOf]
   |some m=>
    rw[eB]at hm;rw[eB]at HX;obtain⟨x,z1,z2,z3,_⟩:=hm;rw[show mpA (A.mp 1)=some ⟨x,0,none⟩ by rw[z1];rfl];have zl:x<w.heap.size:=(yc z3).1;have zs:wr.cell? ⟨x,12,none⟩=some (.bool m.sealed):=(HL.below.cell (p:=⟨x,12,none⟩) zl).trans (by simp[aa,z3,qf]);have zn:x<wr.heap.size:=xll zl HL.below.size;have Kg:x≠w.heap.size+1:=by omega
    have HY:Hid (sO (some m)=m.sealed):=Hd rfl;clear z1 z2 z3 eB;go_wp2;go_roundw;case rel=>exact⟨2,by omega,rfl,Hd (HX.o _)⟩
    case measure=>simp[intOf]
  ·have hm:=H.mv 2 (by decide);obtain⟨q1,f1⟩:=HL.cell 3 _ rfl;obtain⟨q2,f2⟩:=HL.cell 7 _ rfl;obtain⟨q3,f3⟩:=HL.cell 11 _ rfl;have HX:=Hd (HL.next (by decide));have M9:=Xb;cases eB:s.mv 2 with
   |none=>
    rw[eB]at hm;rw[eB]at HX;rw[show mpA (A.mp 2)=none by rw[hm.1];rfl];clear hm eB;go_wp2;go_roundw;case rel=>exact⟨3,by omega,rfl,Hd (HX.o _)⟩
    case measure=>simp[intOf]
   |some m=>
    rw[eB]at hm;rw[eB]at HX;obtain⟨x,z1,z2,z3,_⟩:=hm;rw[show mpA (A.mp 2)=some ⟨x,0,none⟩ by rw[z1];rfl];have zl:x<w.heap.size:=(yc z3).1;have zs:wr.cell? ⟨x,12,none⟩=some (.bool m.sealed):=(HL.below.cell (p:=⟨x,12,none⟩) zl).trans (by simp[aa,z3,qf]);have zn:x<wr.heap.size:=xll zl HL.below.size;have Kg:x≠w.heap.size+1:=by omega
    have HY:Hid (sO (some m)=m.sealed):=Hd rfl;clear z1 z2 z3 eB;go_wp2;go_roundw;case rel=>exact⟨3,by omega,rfl,Hd (HX.o _)⟩
    case measure=>simp[intOf]
  ·have hm:=H.mv 3 (by decide);obtain⟨q1,f1⟩:=HL.cell 4 _ rfl;obtain⟨q2,f2⟩:=HL.cell 8 _ rfl;obtain⟨q3,f3⟩:=HL.cell 12 _ rfl;have HX:=Hd (HL.next (by decide));have M9:=Xa;cases eB:s.mv 3 with
   |none=>
    rw[eB]at hm;rw[eB]at HX;rw[show mpA (A.mp 3)=none by rw[hm.1];rfl];clear hm eB;go_wp2;go_roundw;case rel=>exact⟨4,by omega,rfl,Hd (HX.o _)⟩
    case measure=>simp[intOf]
   |some m=>
    rw[eB]at hm;rw[eB]at HX;obtain⟨x,z1,z2,z3,_⟩:=hm;rw[show mpA (A.mp 3)=some ⟨x,0,none⟩ by rw[z1];rfl];have zl:x<w.heap.size:=(yc z3).1;have zs:wr.cell? ⟨x,12,none⟩=some (.bool m.sealed):=(HL.below.cell (p:=⟨x,12,none⟩) zl).trans (by simp[aa,z3,qf]);have zn:x<wr.heap.size:=xll zl HL.below.size;have Kg:x≠w.heap.size+1:=by omega
    have HY:Hid (sO (some m)=m.sealed):=Hd rfl;clear z1 z2 z3 eB;go_wp2;go_roundw;case rel=>exact⟨4,by omega,rfl,Hd (HX.o _)⟩
    case measure=>simp[intOf]
  ·have k0:wr.cell? ⟨w.heap.size+1,0,none⟩=some (.int .i64 s.ep):=(HL.cell 0 _ rfl).1;have k1:wr.cell? ⟨w.heap.size+1,1,none⟩=some (.int .i64 (lkO s 4 0)):=(HL.cell 1 _ rfl).1;have k2:wr.cell? ⟨w.heap.size+1,2,none⟩=some (.int .i64 (lkO s 4 1)):=(HL.cell 2 _ rfl).1;have k3:wr.cell? ⟨w.heap.size+1,3,none⟩=some (.int .i64 (lkO s 4 2)):=(HL.cell 3 _ rfl).1;have k4:wr.cell? ⟨w.heap.size+1,4,none⟩=some (.int .i64 (lkO s 4 3)):=(HL.cell 4 _ rfl).1;have k5:wr.cell? ⟨w.heap.size+1,5,none⟩=some (.bool (lkM s 4 0)):=(HL.cell 5 _ rfl).1;have k6:wr.cell? ⟨w.heap.size+1,6,none⟩=some (.bool (lkM s 4 1)):=(HL.cell 6 _ rfl).1;have k7:wr.cell? ⟨w.heap.size+1,7,none⟩=some (.bool (lkM s 4 2)):=(HL.cell 7 _ rfl).1;have k8:wr.cell? ⟨w.heap.size+1,8,none⟩=some (.bool (lkM s 4 3)):=(HL.cell 8 _ rfl).1;have k9:wr.cell? ⟨w.heap.size+1,9,none⟩=some (.bool (lkS s 4 0)):=(HL.cell 9 _ rfl).1;have qJ:wr.cell? ⟨w.heap.size+1,10,none⟩=some (.bool (lkS s 4 1)):=(HL.cell 10 _ rfl).1;have JI:wr.cell? ⟨w.heap.size+1,11,none⟩=some (.bool (lkS s 4 2)):=(HL.cell 11 _ rfl).1;have JH:wr.cell? ⟨w.heap.size+1,12,none⟩=some (.bool (lkS s 4 3)):=(HL.cell 12 _ rfl).1;have r0:wr.cell? ⟨w.heap.size,0,none⟩=some (.int .i64 0):=by simp[aa,HL.r]
   have r1:wr.cell? ⟨w.heap.size,1,none⟩=some (.int .i64 0):=by simp[aa,HL.r]
   have r2:wr.cell? ⟨w.heap.size,2,none⟩=some (.int .i64 0):=by simp[aa,HL.r]
   have r3:wr.cell? ⟨w.heap.size,3,none⟩=some (.int .i64 0):=by simp[aa,HL.r]
   have r4:wr.cell? ⟨w.heap.size,4,none⟩=some (.int .i64 0):=by simp[aa,HL.r]
   have r5:wr.cell? ⟨w.heap.size,5,none⟩=some (.bool false):=by simp[aa,HL.r]
   have r6:wr.cell? ⟨w.heap.size,6,none⟩=some (.bool false):=by simp[aa,HL.r]
   have r7:wr.cell? ⟨w.heap.size,7,none⟩=some (.bool false):=by simp[aa,HL.r]
   have r8:wr.cell? ⟨w.heap.size,8,none⟩=some (.bool false):=by simp[aa,HL.r]
   have r9:wr.cell? ⟨w.heap.size,9,none⟩=some (.bool false):=by simp[aa,HL.r]
   have Vy:wr.cell? ⟨w.heap.size,10,none⟩=some (.bool false):=by simp[aa,HL.r]
   have Vx:wr.cell? ⟨w.heap.size,11,none⟩=some (.bool false):=by simp[aa,HL.r]
   have Vw:wr.cell? ⟨w.heap.size,12,none⟩=some (.bool false):=by simp[aa,HL.r]
   have fr:∀q,wr.frozen? ⟨w.heap.size,q,none⟩=false:=λq=>by simp[aq,HL.r]
   have CS:w.heap.size<wr.heap.size:=by have:=HL.lt;omega
   go_wp2;refine aD (v:=.agg (zT s 4)) (by simp[results,Try.results7,go_sem,zT,fr,CS,r0,r1,r2,r3,r4,r5,r6,r7,r8,r9,Vy,Vx,Vw]) rfl ⟨rfl,?_⟩
   iterate 13 refine Below.setCell ?_ (by exact jm _) _
   exact HL.below
end
end Ph
open Go.RowKit Go.Maps
def St.tup (s:St):=(s.hosts,s.id,s.ep,[0,1,2,3].map s.ow,[0,1,2,3].map s.kv,[0,1,2,3].map s.mv,[0,1,2,3].map λh=>[0,1,2,3].map (s.sg h))
theorem four {α:Type} {f g:Nat->α} (h:[0,1,2,3].map f=[0,1,2,3].map g):∀i,i<4->f i=g i:=by
 simp only[List.map_cons,List.map_nil,List.cons.injEq]at h;obtain⟨h0,h1,h2,h3,_⟩:=h;intro i hi;match i,hi with
 |0,_=>exact h0
 |1,_=>exact h1
 |2,_=>exact h2
 |3,_=>exact h3
section
variable {w:ag} {F:Nat->Prop} {A:PA} {s t:St}
theorem jg.tup (p:jg w F A s) (e:s.tup=t.tup):jg w F A t:=by
 unfold St.tup at e;simp only[Prod.mk.injEq]at e;obtain⟨e1,e2,e3,e4,e5,e6,e7⟩:=e;have o:=four e4;have k:=four e5;have m:=four e6;have g:∀h j,h<4->j<4->t.sg h j=s.sg h j:=λh j hh hj=>(four (four e7 h hh) j hj).symm;refine⟨⟨p.cl.1,?_⟩,p.db,λi hi=>⟨(p.mb i hi).1,by rw[<-k i hi];exact(p.mb i hi).2⟩,p.mbi,λi hi=>by rw[<-m i hi];exact p.mv i hi,p.mpi,p.cvi,Ph.pV.congr p.stg g,p.smb⟩;rw[p.cl.2];unfold je;rw[e1,e2,e3,o 0 (by decide),o 1 (by decide),o 2 (by decide),o 3 (by decide)]
end
namespace Ph
section
open Go.Conc Go.ConcN Go.RowKit Go.Maps Go.Conc.Lib Go Sim
section
variable {w w' w0:ag} {F:Nat->Prop} {A:PA} {s t:St} {cl:Nat} {fx:List (Nat×Obj)}
def MvP (m:Mv):Prop:=m.id<=1000/\m.n<=1000/\m.ps.length<=1000/\m.cs.length<=1000/\(∀p∈m.ps,p.1.length<=8/\p.2.length<=12)/\(∀c∈m.cs,c.k.length<=8/\c.v.length<=12)/\m.to<4/\m.fr<=1000/\(m.sent≠[]->m.kind=2->m.parts<=m.ps.length)/\(m.sent≠[]->m.kind=3->m.parts<=m.cs.length)
instance (m:Mv):Decidable (MvP m):=by unfold MvP;infer_instance
def OkP (s:St):Prop:=s.hosts<=4/\s.id<=1000/\s.ep<=1000/\(∀i∈[0,1,2,3],(s.kv i).Pairwise (λa b=>bytesBefore a.1 b.1=true)/\(s.kv i).length<=12/\(∀p∈s.kv i,p.1.length<=8)/\∀m∈(s.mv i).toList,MvP m)/\∀h∈[0,1,2,3],∀k∈[0,1,2,3],∀x∈(s.sg h k).toList,x.kv.length<=1000/\x.next<=1000/\x.id<=1000
instance (s:St):Decidable (OkP s):=by unfold OkP;infer_instance
theorem in4 (h:i<4):i∈[0,1,2,3]:=by simp;omega
theorem MvP.lim {m:Mv} (h:MvP m):uh m:=by
 obtain⟨h1,h2,h3,h4,h5,h6,_⟩:=h;exact⟨by omega,by omega,by omega,by omega,h5,h6⟩
theorem OkP.m (h:OkP s) (hi:i<4) {m:Mv} (e:s.mv i=some m):MvP m:=(h.2.2.2.1 i (in4 hi)).2.2.2 m (by rw[e];exact .head _)
theorem OkP.rp (h:OkP s):wL s:=by
 refine⟨h.1,λi hi=>(h.2.2.2.1 i (in4 hi)).1,λi hi=>(h.2.2.2.1 i (in4 hi)).2.1,λi hi p hp=>?_,by have:=h.2.1;omega,by have:=h.2.2.1;omega,λi hi m hm=>?_⟩
 ·have:=(h.2.2.2.1 i (in4 hi)).2.2.1 p hp;unfold aL;omega
 ·have hp:=h.m hi hm;have hl:=hp.lim;obtain⟨_,_,_,_,_,_,h7,h8,h9,ig⟩:=hp;exact⟨hl,h7,by omega,λq=>⟨h9 q,ig q⟩⟩
def CJ (w0:ag) (cl:Nat) (fx:List (Nat×Obj)) (s:St) (w:ag):Prop:= ∃(F:Nat->Prop) (A:PA),A.cl=cl/\jg w F A s/\(∀b,F b->w0.heap.size<=b/\b<w.heap.size)/\But (λb=>w0.heap.size<=b) w0 w/\∀p∈fx,w.heap[p.1]?=some p.2/\¬F p.1
theorem CJ.idle (h:CJ w0 cl fx s w) (hb:But (λ_=>False) w w'):CJ w0 cl fx s w':=by
 obtain⟨F,A,e,p,lo,b,hx⟩:=h;refine⟨F,A,e,p.idle hb,λb x=>⟨(lo b x).1,xll (lo b x).2 hb.size⟩,b.trans (hb.mono λ_ (x:False)=>x.elim),λq hq=>⟨?_,(hx q hq).2⟩⟩;rw[hb.keep q.1 (yc (hx q hq).1).1 id];exact(hx q hq).1
theorem CJ.same (h:CJ w0 cl fx s w) (sm:Same w w'):CJ w0 cl fx s w':=h.idle (But.same' sm)
theorem CJ.below (h:CJ w0 cl fx s w) (hb:Below w.heap.size w w'):CJ w0 cl fx s w':=h.idle (But.of_below hb)
theorem CJ.less {fy:List (Nat×Obj)} (h:CJ w0 cl fx s w) (hs:∀p∈fy,p∈fx):CJ w0 cl fy s w:=by
 obtain⟨F,A,e,p,lo,b,hx⟩:=h;exact⟨F,A,e,p,lo,b,λq hq=>hx q (hs q hq)⟩
theorem CJ.cons (h:CJ w0 cl fx s w) (hb:Below w.heap.size w w') {b:Nat} {o:Obj} (lT:w.heap.size<=b) (ho:w'.heap[b]?=some o):CJ w0 cl ((b,o)::fx) s w':=by
 have h':=h.below hb;obtain⟨F,A,e,p,lo,bb,hx⟩:=h;refine⟨F,A,e,p.below hb,λb x=>⟨(lo b x).1,xll (lo b x).2 hb.size⟩,bb.trans (But.of_below hb),λq hq=>?_⟩;rcases List.mem_cons.1 hq with rfl|hq
 ·exact⟨ho,λx=>absurd (lo b x).2 (by omega)⟩
 ·obtain⟨a1,a2⟩:=hx q hq;exact⟨by rw[hb.block q.1 (yc a1).1];exact a1,a2⟩
theorem CJ.at (h:CJ w0 cl fx s w) {b:Nat} {o:Obj} (hp:(b,o)∈fx):w.heap[b]?=some o:=by
 obtain⟨F,A,_,_,_,_,hx⟩:=h;exact(hx _ hp).1
theorem CJ.but (h:CJ w0 cl fx s w):But (λb=>w0.heap.size<=b) w0 w:=by
 obtain⟨F,A,_,_,_,hb,_⟩:=h;exact hb
theorem CJ.call {args:Array ae} {v:ae} {s':St} (h:CJ w0 cl fx s w) (hc:∀(F:Nat->Prop) (A:PA),A.cl=cl->jg w F A s->ay prog f args w (jv w F A v s')) (et:s'.tup=t.tup):ay prog f args w λe w'=>e=.returned v/\CJ w0 cl fx t w':=by
 obtain⟨F,A,e,p,lo,bu,hx⟩:=h;refine(hc F A e p).mono λen w' hp=>⟨hp.1,?_⟩
 obtain⟨_,A',h1,h2,h3⟩:=hp;refine⟨_,A',h1.trans e,h2.lts.tup et,λb x=>⟨x.1.elim (λy=>(lo b y).1) λy=>xlt bu.size y,x.2⟩,bu.trans (h3.mono λb x=>(lo b x).1),λq hq=>?_⟩;obtain⟨a1,a2⟩:=hx q hq;have dW:=(yc a1).1;exact⟨by rw[h3.keep q.1 dW a2];exact a1,λx=>x.1.elim a2 λx=>absurd dW (Nat.not_lt.2 x)⟩
end
def Tr (f:aU) (args:Nat->Array ae) (s:St) (v:ae) (t:St):Prop:= ∀(w0:ag) (cl:Nat) (fx:List (Nat×Obj)) (w:ag),CJ w0 cl fx s w->ay prog f (args cl) w λe w'=>e=.returned v/\CJ w0 cl fx t w'
section
variable {s t:St}
theorem kr (k v:ByteArray) (c:Int) (ok:OkP s) (hk:k.size<=aL) (e:chE s k v false=c) (et:(chS s k v false).tup=t.tup):Tr 9 (λcl=>#[.pointer (some ⟨cl,0,none⟩),.string k,.string v]) s (.int .i64 c) t:=λw0 cl fx w h=>by
 subst e;exact h.call (λF A ea p=>ea▸ja0 p ok.rp.kvl (λi hi m hm=>by have:=(ok.m hi hm).2.2.2.1;omega) k v hk) et
theorem yF (k:ByteArray) (c:Int) (ok:OkP s) (hk:k.size<=aL) (e:chE s k ⟨#[]⟩ true=c) (et:(chS s k ⟨#[]⟩ true).tup=t.tup):Tr 10 (λcl=>#[.pointer (some ⟨cl,0,none⟩),.string k]) s (.int .i64 c) t:=λw0 cl fx w h=>by
 subst e;exact h.call (λF A ea p=>ea▸WJ p ok.rp.kvl (λi hi m hm=>by have:=(ok.m hi hm).2.2.2.1;omega) k hk) et
theorem zZ (k to:Int) (c:Int) (ok:OkP s) (hk: -1000<=k/\k<=1000) (F3: -1000<=to/\to<=1000) (e:mvE s k to=c) (et:(mvS s k to).tup=t.tup):Tr 12 (λcl=>#[.pointer (some ⟨cl,0,none⟩),.int .i64 k,.int .i64 to]) s (.int .i64 c) t:=λw0 cl fx w h=>by
 subst e;exact h.call (λF A ea p=>ea▸q50 p ok.rp.kvr ok.rp.kvl ok.rp.kvk ok.rp.id k to ⟨by omega,by omega⟩ ⟨by omega,by omega⟩) et
theorem KZ (k:Int) (c:Int) (hk: -1000<=k/\k<=1000) (e:abE s k=c) (et:(abS s k).tup=t.tup):Tr 13 (λcl=>#[.pointer (some ⟨cl,0,none⟩),.int .i64 k]) s (.int .i64 c) t:=λw0 cl fx w h=>by
 subst e;exact h.call (λF A ea p=>ea▸q1i p k ⟨by omega,by omega⟩) et
theorem Rl (k:Int) (c:Int) (ok:OkP s) (hk: -1000<=k/\k<=1000) (e:rsE s k=c) (et:(rsR s k).tup=t.tup):Tr 14 (λcl=>#[.pointer (some ⟨cl,0,none⟩),.int .i64 k]) s (.int .i64 c) t:=λw0 cl fx w h=>by
 subst e;exact h.call (λF A ea p=>ea▸X0 p ok.1 k ⟨by omega,by omega⟩) et
theorem u6 (k:Int) (v:ByteArray) (c:Int) (ok:OkP s) (hk: -1000<=k/\k<=1000) (ev:nfV s k=v.data.toList) (e:nxE s k=c) (et:(nfS s k).tup=t.tup):Tr 16 (λcl=>#[.pointer (some ⟨cl,0,none⟩),.int .i64 k]) s (.tuple #[.string v,.int .i64 c]) t:=λw0 cl fx w h=>by
 subst e;rw[<-qy ev.symm];exact h.call (λF A ea p=>ea▸q1q p (λi hi m hm=>(ok.m hi hm).lim) k ⟨by omega,by omega⟩) et
theorem vC (h:Int) (u:ByteArray) (c:Int) (ok:OkP s) (hu:u.size<=1000) (e:rpE s h=c) (et:(rpS s h u.data.toList).tup=t.tup):Tr 15 (λcl=>#[.pointer (some ⟨cl,0,none⟩),.int .i64 h,.string u]) s (.int .i64 c) t:=λw0 cl fx w hh=>by
 subst e;exact hh.call (λF A ea p=>ea▸q1r p ok.rp h u (by omega)) et
theorem vk (h:Int) (u v:ByteArray) (c:Int) (ok:OkP s) (Na: -1000<=h/\h<=1000) (hu:u.size<=1000) (ev:(dlR s h u.data.toList).1=v.data.toList) (e:dlE s h=c) (et:(dlR s h u.data.toList).2.tup=t.tup):Tr 17 (λcl=>#[.pointer (some ⟨cl,0,none⟩),.int .i64 h,.string u]) s (.tuple #[.string v,.int .i64 c]) t:=λw0 cl fx w hh=>by
 subst e;rw[<-qy ev.symm];exact hh.call (λF A ea p=>ea▸X4 p ok.1 (λa b x ha hb hx=>by have:=ok.2.2.2.2 a (in4 ha) b (in4 hb) x (by rw[hx];exact .head _);omega) h u (by omega) ⟨by omega,by omega⟩) et
theorem Ip (v:Array ae) (e:zT s 4=v):Tr 7 (λcl=>#[.pointer (some ⟨cl,0,none⟩)]) s (.agg v) s:=λw0 cl fx w h=>by
 subst e;have h0:=h;obtain⟨F,A,rfl,p,_⟩:=h;exact(q5y p).mono λen w' hp=>⟨hp.1,h0.below hp.2⟩
theorem zV (k v:ByteArray) (c:Int) (ok:OkP s) (hk:k.size<=aL) (ev:Eo s.kv k.data.toList=v.data.toList) (e:Ep s.kv k.data.toList=c):Tr 8 (λcl=>#[.pointer (some ⟨cl,0,none⟩),.string k]) s (.tuple #[.string v,.int .i64 c]) s:=λw0 cl fx w h=>by
 subst e;rw[<-qy ev.symm];have h0:=h;obtain⟨F,A,rfl,p,_⟩:=h;have q:Clu w A.cl A.db A.mb s.kv:=⟨λi hi=>⟨_,p.part i hi⟩,p.mbi,ok.rp.kvl⟩
 exact(q3v q k hk).mono λen w' hp=>⟨hp.1,h0.below hp.2⟩
end
def kS (ow:List Nat) (kv:List KV) (m:Option Mv) (g:Option Sg) (id ep:Nat):St:=⟨2,λi=>ow.getD i 0,λi=>kv.getD i [],λi=>if i=0 then m else none,λh k=>if h=1/\k=0 then g else none,id,ep⟩
theorem zb {k:ByteArray} (h:k.size<=1000):k.size<=aL:=by unfold aL;omega
theorem jas:(Hr 2).tup=(kS [0,1,0,1] [[],[],[],[]] none none 0 0).tup:=by kernel_rfl
def kS0:St:=kS [0,1,0,1] [[],[],[],[]] none none 0 0
def kS1:St:=kS [0,1,0,1] [[([97],[49,50,51,52,53,54,55,56,57,48,49,50])],[],[],[]] none none 0 0
def kS2:St:=kS [0,1,0,1] [[([97],[49,50,51,52,53,54,55,56,57,48,49,50]),([97,98],[97,98])],[],[],[]] none none 0 0
def kS3:St:=kS [0,1,0,1] [[([97],[49,50,51,52,53,54,55,56,57,48,49,50]),([97,98],[97,98]),([97,98,99],[97,98,99])],[],[],[]] none none 0 0
def kS4:St:=kS [0,1,0,1] [[([97],[49,50,51,52,53,54,55,56,57,48,49,50]),([97,98],[97,98]),([97,98,99],[97,98,99]),([98],[98])],[],[],[]] none none 0 0
def kS5:St:=kS [0,1,0,1] [[([97],[49,50,51,52,53,54,55,56,57,48,49,50]),([97,98],[97,98]),([97,98,99],[97,98,99]),([98],[98]),([103,103],[103,103])],[],[],[]] none none 0 0
def kS6:St:=kS [0,1,0,1] [[([97],[49,50,51,52,53,54,55,56,57,48,49,50]),([97,98],[97,98]),([97,98,99],[97,98,99]),([98],[98]),([103,103],[103,103])],[([104],[104])],[],[]] none none 0 0
def kS7:St:=kS [0,1,0,1] [[([97],[49,50,51,52,53,54,55,56,57,48,49,50]),([97,98],[97,98]),([97,98,99],[97,98,99]),([98],[98]),([103,103],[103,103])],[([104],[104]),([109],[109])],[],[]] none none 0 0
def kS8:St:=kS [0,1,0,1] [[([97],[49,50,51,52,53,54,55,56,57,48,49,50]),([97,98],[97,98]),([97,98,99],[97,98,99]),([98],[98]),([103,103],[103,103])],[([104],[104]),([109],[109])],[([110],[110])],[]] none none 0 0
def kS9:St:=kS [0,1,0,1] [[([97],[49,50,51,52,53,54,55,56,57,48,49,50]),([97,98],[97,98]),([97,98,99],[97,98,99]),([98],[98]),([103,103],[103,103])],[([104],[104]),([109],[109])],[([110],[110]),([116],[116])],[]] none none 0 0
def Jw:St:=kS [0,1,0,1] [[([97],[49,50,51,52,53,54,55,56,57,48,49,50]),([97,98],[97,98]),([97,98,99],[97,98,99]),([98],[98]),([103,103],[103,103])],[([104],[104]),([109],[109])],[([110],[110]),([116],[116])],[([117],[117])]] none none 0 0
def kI:St:=kS [0,1,0,1] [[([97],[49,50,51,52,53,54,55,56,57,48,49,50]),([97,98],[97,98]),([97,98,99],[97,98,99]),([98],[98]),([103,103],[103,103])],[([104],[104]),([109],[109])],[([110],[110]),([116],[116])],[([117],[117]),([122],[122])]] none none 0 0
def iO:St:=kS [0,1,0,1] [[([97],[49,50,51,52,53,54,55,56,57,48,49,50]),([97,98],[97,98]),([97,98,99],[97,98,99]),([98],[98]),([103,103],[103,103])],[([104],[104]),([109],[109])],[([110],[110]),([116],[116])],[([117],[117]),([122],[122])]] (some ⟨1,0,1,[([97],[49,50,51,52,53,54,55,56,57,48,49,50]),([97,98],[97,98]),([97,98,99],[97,98,99]),([98],[98]),([103,103],[103,103])],[],[],0,0,0,false⟩) none 1 0
def Ei:St:=kS [0,1,0,1] [[([97],[49,50,51,52,53,54,55,56,57,48,49,50]),([97,98],[97,98]),([97,98,99],[97,98,99]),([98],[98]),([103,103],[103,103])],[([104],[104]),([109],[109])],[([110],[110]),([116],[116])],[([117],[117]),([122],[122])]] (some ⟨1,0,1,[([97],[49,50,51,52,53,54,55,56,57,48,49,50]),([97,98],[97,98]),([97,98,99],[97,98,99]),([98],[98]),([103,103],[103,103])],[],[1,0,1,0,0,231,139,34,216],0,1,0,false⟩) none 1 0
def CV:St:=kS [0,1,0,1] [[([97],[49,50,51,52,53,54,55,56,57,48,49,50]),([97,98],[97,98]),([97,98,99],[97,98,99]),([98],[98]),([103,103],[103,103])],[([104],[104]),([109],[109])],[([110],[110]),([116],[116])],[([117],[117]),([122],[122])]] (some ⟨1,0,1,[([97],[49,50,51,52,53,54,55,56,57,48,49,50]),([97,98],[97,98]),([97,98,99],[97,98,99]),([98],[98]),([103,103],[103,103])],[],[1,0,1,0,0,231,139,34,216],0,1,0,false⟩) (some ⟨1,1,[],false⟩) 1 0
def Jv:St:=kS [0,1,0,1] [[([97],[49,50,51,52,53,54,55,56,57,48,49,50]),([97,98],[97,98]),([97,98,99],[97,98,99]),([98],[98]),([103,103],[103,103])],[([104],[104]),([109],[109])],[([110],[110]),([116],[116])],[([117],[117]),([122],[122])]] (some ⟨1,0,1,[([97],[49,50,51,52,53,54,55,56,57,48,49,50]),([97,98],[97,98]),([97,98,99],[97,98,99]),([98],[98]),([103,103],[103,103])],[],[],1,1,0,false⟩) (some ⟨1,1,[],false⟩) 1 0
def Eh:St:=kS [0,1,0,1] [[([97],[49,50,51,52,53,54,55,56,57,48,49,50]),([97,98],[97,98]),([97,98,99],[97,98,99]),([98],[98]),([103,103],[103,103])],[([104],[104]),([109],[109])],[([110],[110]),([116],[116])],[([117],[117]),([122],[122])]] (some ⟨1,0,1,[([97],[49,50,51,52,53,54,55,56,57,48,49,50]),([97,98],[97,98]),([97,98,99],[97,98,99]),([98],[98]),([103,103],[103,103])],[],[2,0,1,1,35,4,0,1,97,12,49,50,51,52,53,54,55,56,57,48,49,50,1,1,98,2,97,98,2,1,99,3,97,98,99,0,1,98,1,98,72,209,207,92],1,2,4,false⟩) (some ⟨1,1,[],false⟩) 1 0
def Mk:St:=kS [0,1,0,1] [[([97],[49,50,51,52,53,54,55,56,57,48,49,50]),([97,98],[97,98]),([97,98,99],[97,98,99]),([97,98,100],[110,101,119]),([98],[98]),([103,103],[103,103])],[([104],[104]),([109],[109])],[([110],[110]),([116],[116])],[([117],[117]),([122],[122])]] (some ⟨1,0,1,[([97],[49,50,51,52,53,54,55,56,57,48,49,50]),([97,98],[97,98]),([97,98,99],[97,98,99]),([98],[98]),([103,103],[103,103])],[⟨[97,98,100],[110,101,119],false⟩],[2,0,1,1,35,4,0,1,97,12,49,50,51,52,53,54,55,56,57,48,49,50,1,1,98,2,97,98,2,1,99,3,97,98,99,0,1,98,1,98,72,209,207,92],1,2,4,false⟩) (some ⟨1,1,[],false⟩) 1 0
def Eg:St:=kS [0,1,0,1] [[([97],[49,50,51,52,53,54,55,56,57,48,49,50]),([97,98],[97,98]),([97,98,99],[97,98,99]),([97,98,100],[110,101,119]),([103,103],[103,103])],[([104],[104]),([109],[109])],[([110],[110]),([116],[116])],[([117],[117]),([122],[122])]] (some ⟨1,0,1,[([97],[49,50,51,52,53,54,55,56,57,48,49,50]),([97,98],[97,98]),([97,98,99],[97,98,99]),([98],[98]),([103,103],[103,103])],[⟨[97,98,100],[110,101,119],false⟩,⟨[98],[],true⟩],[2,0,1,1,35,4,0,1,97,12,49,50,51,52,53,54,55,56,57,48,49,50,1,1,98,2,97,98,2,1,99,3,97,98,99,0,1,98,1,98,72,209,207,92],1,2,4,false⟩) (some ⟨1,1,[],false⟩) 1 0
def zJ:St:=kS [0,1,0,1] [[([97],[49,50,51,52,53,54,55,56,57,48,49,50]),([97,98],[97,98]),([97,98,99],[97,98,99]),([97,98,100],[110,101,119]),([103,103],[103,103])],[([104],[104]),([109],[109])],[([110],[110]),([116],[116])],[([117],[117]),([122],[122])]] (some ⟨1,0,1,[([97],[49,50,51,52,53,54,55,56,57,48,49,50]),([97,98],[97,98]),([97,98,99],[97,98,99]),([98],[98]),([103,103],[103,103])],[⟨[97,98,100],[110,101,119],false⟩,⟨[98],[],true⟩],[2,0,1,1,35,4,0,1,97,12,49,50,51,52,53,54,55,56,57,48,49,50,1,1,98,2,97,98,2,1,99,3,97,98,99,0,1,98,1,98,72,209,207,92],1,2,4,false⟩) (some ⟨1,2,[([97],[49,50,51,52,53,54,55,56,57,48,49,50]),([97,98],[97,98]),([97,98,99],[97,98,99]),([98],[98])],false⟩) 1 0
def Ju:St:=kS [0,1,0,1] [[([97],[49,50,51,52,53,54,55,56,57,48,49,50]),([97,98],[97,98]),([97,98,99],[97,98,99]),([97,98,100],[110,101,119]),([103,103],[103,103])],[([104],[104]),([109],[109])],[([110],[110]),([116],[116])],[([117],[117]),([122],[122])]] (some ⟨1,0,1,[([103,103],[103,103])],[⟨[97,98,100],[110,101,119],false⟩,⟨[98],[],true⟩],[],2,2,4,false⟩) (some ⟨1,2,[([97],[49,50,51,52,53,54,55,56,57,48,49,50]),([97,98],[97,98]),([97,98,99],[97,98,99]),([98],[98])],false⟩) 1 0
def Ef:St:=kS [0,1,0,1] [[([97],[49,50,51,52,53,54,55,56,57,48,49,50]),([97,98],[97,98]),([97,98,99],[97,98,99]),([97,98,100],[110,101,119]),([103,103],[103,103])],[([104],[104]),([109],[109])],[([110],[110]),([116],[116])],[([117],[117]),([122],[122])]] (some ⟨1,0,1,[([103,103],[103,103])],[⟨[97,98,100],[110,101,119],false⟩,⟨[98],[],true⟩],[2,0,1,2,8,1,0,2,103,103,2,103,103,251,231,147,18],2,2,1,false⟩) (some ⟨1,2,[([97],[49,50,51,52,53,54,55,56,57,48,49,50]),([97,98],[97,98]),([97,98,99],[97,98,99]),([98],[98])],false⟩) 1 0
def Js:St:=kS [0,1,0,1] [[([97],[49,50,51,52,53,54,55,56,57,48,49,50]),([97,98],[97,98]),([97,98,99],[97,98,99]),([97,98,100],[110,101,119]),([103,103],[103,103])],[([104],[104]),([109],[109])],[([110],[110]),([116],[116])],[([117],[117]),([122],[122])]] (some ⟨1,0,1,[([103,103],[103,103])],[⟨[97,98,100],[110,101,119],false⟩,⟨[98],[],true⟩],[2,0,1,2,8,1,0,2,103,103,2,103,103,251,231,147,18],2,2,1,false⟩) (some ⟨1,3,[([97],[49,50,51,52,53,54,55,56,57,48,49,50]),([97,98],[97,98]),([97,98,99],[97,98,99]),([98],[98]),([103,103],[103,103])],false⟩) 1 0
def Jr:St:=kS [0,1,0,1] [[([97],[49,50,51,52,53,54,55,56,57,48,49,50]),([97,98],[97,98]),([97,98,99],[97,98,99]),([97,98,100],[110,101,119]),([103,103],[103,103])],[([104],[104]),([109],[109])],[([110],[110]),([116],[116])],[([117],[117]),([122],[122])]] (some ⟨1,0,1,[],[⟨[97,98,100],[110,101,119],false⟩,⟨[98],[],true⟩],[],3,2,1,false⟩) (some ⟨1,3,[([97],[49,50,51,52,53,54,55,56,57,48,49,50]),([97,98],[97,98]),([97,98,99],[97,98,99]),([98],[98]),([103,103],[103,103])],false⟩) 1 0
def Ee:St:=kS [0,1,0,1] [[([97],[49,50,51,52,53,54,55,56,57,48,49,50]),([97,98],[97,98]),([97,98,99],[97,98,99]),([97,98,100],[110,101,119]),([103,103],[103,103])],[([104],[104]),([109],[109])],[([110],[110]),([116],[116])],[([117],[117]),([122],[122])]] (some ⟨1,0,1,[],[⟨[97,98,100],[110,101,119],false⟩,⟨[98],[],true⟩],[3,0,1,3,13,2,1,3,97,98,100,3,110,101,119,2,1,98,255,20,201,82],3,3,2,false⟩) (some ⟨1,3,[([97],[49,50,51,52,53,54,55,56,57,48,49,50]),([97,98],[97,98]),([97,98,99],[97,98,99]),([98],[98]),([103,103],[103,103])],false⟩) 1 0
def Jq:St:=kS [0,1,0,1] [[([97],[49,50,51,52,53,54,55,56,57,48,49,50]),([97,98],[97,98]),([97,98,99],[97,98,99]),([97,98,100],[110,101,119]),([103,103],[103,103])],[([104],[104]),([109],[109])],[([110],[110]),([116],[116])],[([117],[117]),([122],[122])]] (some ⟨1,0,1,[],[⟨[97,98,100],[110,101,119],false⟩,⟨[98],[],true⟩],[3,0,1,3,13,2,1,3,97,98,100,3,110,101,119,2,1,98,255,20,201,82],3,3,2,false⟩) (some ⟨1,4,[([97],[49,50,51,52,53,54,55,56,57,48,49,50]),([97,98],[97,98]),([97,98,99],[97,98,99]),([97,98,100],[110,101,119]),([103,103],[103,103])],false⟩) 1 0
def Jp:St:=kS [0,1,0,1] [[([97],[49,50,51,52,53,54,55,56,57,48,49,50]),([97,98],[97,98]),([97,98,99],[97,98,99]),([97,98,100],[110,101,119]),([103,103],[103,103])],[([104],[104]),([109],[109])],[([110],[110]),([116],[116])],[([117],[117]),([122],[122])]] (some ⟨1,0,1,[],[],[],4,3,2,false⟩) (some ⟨1,4,[([97],[49,50,51,52,53,54,55,56,57,48,49,50]),([97,98],[97,98]),([97,98,99],[97,98,99]),([97,98,100],[110,101,119]),([103,103],[103,103])],false⟩) 1 0
def pE:St:=kS [0,1,0,1] [[([97],[49,50,51,52,53,54,55,56,57,48,49,50]),([97,98],[97,98]),([97,98,99],[97,98,99]),([97,98,100],[110,101,119]),([103,103],[103,103])],[([104],[104]),([109],[109])],[([110],[110]),([116],[116])],[([117],[117]),([122],[122])]] (some ⟨1,0,1,[],[],[4,0,1,4,0,39,59,252,78],4,4,2,true⟩) (some ⟨1,4,[([97],[49,50,51,52,53,54,55,56,57,48,49,50]),([97,98],[97,98]),([97,98,99],[97,98,99]),([97,98,100],[110,101,119]),([103,103],[103,103])],false⟩) 1 0
def Bj:St:=kS [0,1,0,1] [[([97],[49,50,51,52,53,54,55,56,57,48,49,50]),([97,98],[97,98]),([97,98,99],[97,98,99]),([97,98,100],[110,101,119]),([103,103],[103,103])],[([104],[104]),([109],[109])],[([110],[110]),([116],[116])],[([117],[117]),([122],[122])]] (some ⟨1,0,1,[],[],[4,0,1,4,0,39,59,252,78],4,4,2,true⟩) none 1 0
def Bh:St:=kS [0,1,0,1] [[([97],[49,50,51,52,53,54,55,56,57,48,49,50]),([97,98],[97,98]),([97,98,99],[97,98,99]),([97,98,100],[110,101,119]),([103,103],[103,103])],[([104],[104]),([109],[109])],[([110],[110]),([116],[116])],[([117],[117]),([122],[122])]] (some ⟨2,0,1,[([97],[49,50,51,52,53,54,55,56,57,48,49,50]),([97,98],[97,98]),([97,98,99],[97,98,99]),([97,98,100],[110,101,119]),([103,103],[103,103])],[],[],0,0,0,false⟩) none 2 0
def Mj:St:=kS [0,1,0,1] [[([97],[49,50,51,52,53,54,55,56,57,48,49,50]),([97,98],[97,98]),([97,98,99],[97,98,99]),([97,98,100],[110,101,119]),([103,103],[103,103])],[([104],[104]),([109],[109])],[([110],[110]),([116],[116])],[([117],[117]),([122],[122])]] (some ⟨2,0,1,[([97],[49,50,51,52,53,54,55,56,57,48,49,50]),([97,98],[97,98]),([97,98,99],[97,98,99]),([97,98,100],[110,101,119]),([103,103],[103,103])],[],[1,0,2,0,0,148,75,12,50],0,1,0,false⟩) none 2 0
def Mi:St:=kS [0,1,0,1] [[([97],[49,50,51,52,53,54,55,56,57,48,49,50]),([97,98],[97,98]),([97,98,99],[97,98,99]),([97,98,100],[110,101,119]),([103,103],[103,103])],[([104],[104]),([109],[109])],[([110],[110]),([116],[116])],[([117],[117]),([122],[122])]] (some ⟨2,0,1,[([97],[49,50,51,52,53,54,55,56,57,48,49,50]),([97,98],[97,98]),([97,98,99],[97,98,99]),([97,98,100],[110,101,119]),([103,103],[103,103])],[],[1,0,2,0,0,148,75,12,50],0,1,0,false⟩) (some ⟨2,1,[],false⟩) 2 0
def Jo:St:=kS [0,1,0,1] [[([97],[49,50,51,52,53,54,55,56,57,48,49,50]),([97,98],[97,98]),([97,98,99],[97,98,99]),([97,98,100],[110,101,119]),([103,103],[103,103])],[([104],[104]),([109],[109])],[([110],[110]),([116],[116])],[([117],[117]),([122],[122])]] (some ⟨2,0,1,[([97],[49,50,51,52,53,54,55,56,57,48,49,50]),([97,98],[97,98]),([97,98,99],[97,98,99]),([97,98,100],[110,101,119]),([103,103],[103,103])],[],[],1,1,0,false⟩) (some ⟨2,1,[],false⟩) 2 0
def Mh:St:=kS [0,1,0,1] [[([97],[49,50,51,52,53,54,55,56,57,48,49,50]),([97,98],[97,98]),([97,98,99],[97,98,99]),([97,98,100],[110,101,119]),([103,103],[103,103])],[([104],[104]),([109],[109])],[([110],[110]),([116],[116])],[([117],[117]),([122],[122])]] (some ⟨2,0,1,[([97],[49,50,51,52,53,54,55,56,57,48,49,50]),([97,98],[97,98]),([97,98,99],[97,98,99]),([97,98,100],[110,101,119]),([103,103],[103,103])],[],[2,0,2,1,37,4,0,1,97,12,49,50,51,52,53,54,55,56,57,48,49,50,1,1,98,2,97,98,2,1,99,3,97,98,99,2,1,100,3,110,101,119,217,222,212,124],1,2,4,false⟩) (some ⟨2,1,[],false⟩) 2 0
def Me:St:=kS [0,1,0,1] [[([97],[49,50,51,52,53,54,55,56,57,48,49,50]),([97,98],[97,98]),([97,98,99],[97,98,99]),([97,98,100],[110,101,119]),([103,103],[103,103])],[([104],[104]),([109],[109])],[([110],[110]),([116],[116])],[([117],[117]),([122],[122])]] (some ⟨2,0,1,[([97],[49,50,51,52,53,54,55,56,57,48,49,50]),([97,98],[97,98]),([97,98,99],[97,98,99]),([97,98,100],[110,101,119]),([103,103],[103,103])],[],[2,0,2,1,37,4,0,1,97,12,49,50,51,52,53,54,55,56,57,48,49,50,1,1,98,2,97,98,2,1,99,3,97,98,99,2,1,100,3,110,101,119,217,222,212,124],1,2,4,false⟩) (some ⟨2,2,[([97],[49,50,51,52,53,54,55,56,57,48,49,50]),([97,98],[97,98]),([97,98,99],[97,98,99]),([97,98,100],[110,101,119])],false⟩) 2 0
def Jm:St:=kS [0,1,0,1] [[([97],[49,50,51,52,53,54,55,56,57,48,49,50]),([97,98],[97,98]),([97,98,99],[97,98,99]),([97,98,100],[110,101,119]),([103,103],[103,103])],[([104],[104]),([109],[109])],[([110],[110]),([116],[116])],[([117],[117]),([122],[122])]] (some ⟨2,0,1,[([103,103],[103,103])],[],[],2,2,4,false⟩) (some ⟨2,2,[([97],[49,50,51,52,53,54,55,56,57,48,49,50]),([97,98],[97,98]),([97,98,99],[97,98,99]),([97,98,100],[110,101,119])],false⟩) 2 0
def Md:St:=kS [0,1,0,1] [[([97],[49,50,51,52,53,54,55,56,57,48,49,50]),([97,98],[97,98]),([97,98,99],[97,98,99]),([97,98,100],[110,101,119]),([103,103],[103,103])],[([104],[104]),([109],[109])],[([110],[110]),([116],[116])],[([117],[117]),([122],[122])]] (some ⟨2,0,1,[([103,103],[103,103])],[],[2,0,2,2,8,1,0,2,103,103,2,103,103,73,137,237,174],2,2,1,false⟩) (some ⟨2,2,[([97],[49,50,51,52,53,54,55,56,57,48,49,50]),([97,98],[97,98]),([97,98,99],[97,98,99]),([97,98,100],[110,101,119])],false⟩) 2 0
def Mc:St:=kS [0,1,0,1] [[([97],[49,50,51,52,53,54,55,56,57,48,49,50]),([97,98],[97,98]),([97,98,99],[97,98,99]),([97,98,100],[110,101,119]),([103,103],[103,103])],[([104],[104]),([109],[109])],[([110],[110]),([116],[116])],[([117],[117]),([122],[122])]] (some ⟨2,0,1,[([103,103],[103,103])],[],[2,0,2,2,8,1,0,2,103,103,2,103,103,73,137,237,174],2,2,1,false⟩) (some ⟨2,3,[([97],[49,50,51,52,53,54,55,56,57,48,49,50]),([97,98],[97,98]),([97,98,99],[97,98,99]),([97,98,100],[110,101,119]),([103,103],[103,103])],false⟩) 2 0
def Jl:St:=kS [0,1,0,1] [[([97],[49,50,51,52,53,54,55,56,57,48,49,50]),([97,98],[97,98]),([97,98,99],[97,98,99]),([97,98,100],[110,101,119]),([103,103],[103,103])],[([104],[104]),([109],[109])],[([110],[110]),([116],[116])],[([117],[117]),([122],[122])]] (some ⟨2,0,1,[],[],[],3,2,1,false⟩) (some ⟨2,3,[([97],[49,50,51,52,53,54,55,56,57,48,49,50]),([97,98],[97,98]),([97,98,99],[97,98,99]),([97,98,100],[110,101,119]),([103,103],[103,103])],false⟩) 2 0
def Ma:St:=kS [0,1,0,1] [[([97],[49,50,51,52,53,54,55,56,57,48,49,50]),([97,98],[97,98]),([97,98,99],[97,98,99]),([97,98,100],[110,101,119]),([103,103],[103,103])],[([104],[104]),([109],[109])],[([110],[110]),([116],[116])],[([117],[117]),([122],[122])]] (some ⟨2,0,1,[],[],[4,0,2,3,0,17,50,191,222],3,4,1,true⟩) (some ⟨2,3,[([97],[49,50,51,52,53,54,55,56,57,48,49,50]),([97,98],[97,98]),([97,98,99],[97,98,99]),([97,98,100],[110,101,119]),([103,103],[103,103])],false⟩) 2 0
def L9:St:=kS [0,1,0,1] [[([97],[49,50,51,52,53,54,55,56,57,48,49,50]),([97,98],[97,98]),([97,98,99],[97,98,99]),([97,98,100],[110,101,119]),([103,103],[103,103])],[([104],[104]),([109],[109])],[([110],[110]),([116],[116])],[([117],[117]),([122],[122])]] (some ⟨2,0,1,[],[],[4,0,2,3,0,17,50,191,222],3,4,1,true⟩) (some ⟨2,4,[([97],[49,50,51,52,53,54,55,56,57,48,49,50]),([97,98],[97,98]),([97,98,99],[97,98,99]),([97,98,100],[110,101,119]),([103,103],[103,103])],true⟩) 2 0
def nL:St:=kS [1,1,0,1] [[([97],[49,50,51,52,53,54,55,56,57,48,49,50]),([97,98],[97,98]),([97,98,99],[97,98,99]),([97,98,100],[110,101,119]),([103,103],[103,103])],[([104],[104]),([109],[109])],[([110],[110]),([116],[116])],[([117],[117]),([122],[122])]] none none 2 1
def L6:St:=kS [1,1,0,1] [[([97],[120]),([97,98],[97,98]),([97,98,99],[97,98,99]),([97,98,100],[110,101,119]),([103,103],[103,103])],[([104],[104]),([109],[109])],[([110],[110]),([116],[116])],[([117],[117]),([122],[122])]] none none 2 1
theorem lX:OkP kS0:=by decide+kernel
theorem Ty:OkP kS1:=by decide+kernel
theorem kok2:OkP kS2:=by decide+kernel
theorem kok3:OkP kS3:=by decide+kernel
theorem kok4:OkP kS4:=by decide+kernel
theorem kok5:OkP kS5:=by decide+kernel
theorem kok6:OkP kS6:=by decide+kernel
theorem kok7:OkP kS7:=by decide+kernel
theorem kok8:OkP kS8:=by decide+kernel
theorem kok9:OkP kS9:=by decide+kernel
theorem jfj:OkP Jw:=by decide+kernel
theorem Bu:OkP kI:=by decide+kernel
theorem zU:OkP iO:=by decide+kernel
theorem jfk:OkP Ei:=by decide+kernel
theorem Sv:OkP CV:=by decide+kernel
theorem jfl:OkP Jv:=by decide+kernel
theorem jfm:OkP Eh:=by decide+kernel
theorem jfn:OkP Mk:=by decide+kernel
theorem jfo:OkP Eg:=by decide+kernel
theorem Sr:OkP zJ:=by decide+kernel
theorem jfp:OkP Ju:=by decide+kernel
theorem jfq:OkP Ef:=by decide+kernel
theorem jfr:OkP Js:=by decide+kernel
theorem jfs:OkP Jr:=by decide+kernel
theorem jft:OkP Ee:=by decide+kernel
theorem jfu:OkP Jq:=by decide+kernel
theorem jfv:OkP Jp:=by decide+kernel
theorem Hw:OkP pE:=by decide+kernel
theorem Sq:OkP Bj:=by decide+kernel
theorem jfw:OkP Bh:=by decide+kernel
theorem jfx:OkP Mj:=by decide+kernel
theorem jfy:OkP Mi:=by decide+kernel
theorem jfz:OkP Jo:=by decide+kernel
theorem jf0:OkP Mh:=by decide+kernel
theorem jf1:OkP Me:=by decide+kernel
theorem jf2:OkP Jm:=by decide+kernel
theorem jf3:OkP Md:=by decide+kernel
theorem jf4:OkP Mc:=by decide+kernel
theorem jf5:OkP Jl:=by decide+kernel
theorem jf6:OkP Ma:=by decide+kernel
theorem jf7:OkP L9:=by decide+kernel
theorem Hu:OkP nL:=by decide+kernel
theorem kt0:Tr 7 (λcl=>#[.pointer (some ⟨cl,0,none⟩)]) kS0 (.agg #[.int .i64 0,.int .i64 0,.int .i64 1,.int .i64 0,.int .i64 1,.bool false,.bool false,.bool false,.bool false,.bool false,.bool false,.bool false,.bool false]) kS0:=Ip #[.int .i64 0,.int .i64 0,.int .i64 1,.int .i64 0,.int .i64 1,.bool false,.bool false,.bool false,.bool false,.bool false,.bool false,.bool false,.bool false] (by kernel_rfl)
theorem kt1:Tr 8 (λcl=>#[.pointer (some ⟨cl,0,none⟩),.string ⟨#[]⟩]) kS0 (.tuple #[.string ⟨#[]⟩,.int .i64 2]) kS0:=zV ⟨#[]⟩ ⟨#[]⟩ 2 lX (zb (by decide+kernel)) (by kernel_rfl) (by kernel_rfl)
theorem kt2:Tr 9 (λcl=>#[.pointer (some ⟨cl,0,none⟩),.string ⟨#[]⟩,.string ⟨#[97,32,118,97,108,117,101,32,116,111,111,32,108,111,110,103]⟩]) kS0 (.int .i64 2) kS0:=kr ⟨#[]⟩ ⟨#[97,32,118,97,108,117,101,32,116,111,111,32,108,111,110,103]⟩ 2 lX (zb (by decide+kernel)) (by kernel_rfl) (by kernel_rfl)
theorem kt3:Tr 10 (λcl=>#[.pointer (some ⟨cl,0,none⟩),.string ⟨#[]⟩]) kS0 (.int .i64 2) kS0:=yF ⟨#[]⟩ 2 lX (zb (by decide+kernel)) (by kernel_rfl) (by kernel_rfl)
theorem kt4:Tr 8 (λcl=>#[.pointer (some ⟨cl,0,none⟩),.string ⟨#[65]⟩]) kS0 (.tuple #[.string ⟨#[]⟩,.int .i64 2]) kS0:=zV ⟨#[65]⟩ ⟨#[]⟩ 2 lX (zb (by decide+kernel)) (by kernel_rfl) (by kernel_rfl)
theorem kt5:Tr 9 (λcl=>#[.pointer (some ⟨cl,0,none⟩),.string ⟨#[65]⟩,.string ⟨#[97,32,118,97,108,117,101,32,116,111,111,32,108,111,110,103]⟩]) kS0 (.int .i64 2) kS0:=kr ⟨#[65]⟩ ⟨#[97,32,118,97,108,117,101,32,116,111,111,32,108,111,110,103]⟩ 2 lX (zb (by decide+kernel)) (by kernel_rfl) (by kernel_rfl)
theorem kt6:Tr 10 (λcl=>#[.pointer (some ⟨cl,0,none⟩),.string ⟨#[65]⟩]) kS0 (.int .i64 2) kS0:=yF ⟨#[65]⟩ 2 lX (zb (by decide+kernel)) (by kernel_rfl) (by kernel_rfl)
theorem kt7:Tr 8 (λcl=>#[.pointer (some ⟨cl,0,none⟩),.string ⟨#[97,49]⟩]) kS0 (.tuple #[.string ⟨#[]⟩,.int .i64 2]) kS0:=zV ⟨#[97,49]⟩ ⟨#[]⟩ 2 lX (zb (by decide+kernel)) (by kernel_rfl) (by kernel_rfl)
theorem kt8:Tr 9 (λcl=>#[.pointer (some ⟨cl,0,none⟩),.string ⟨#[97,49]⟩,.string ⟨#[97,32,118,97,108,117,101,32,116,111,111,32,108,111,110,103]⟩]) kS0 (.int .i64 2) kS0:=kr ⟨#[97,49]⟩ ⟨#[97,32,118,97,108,117,101,32,116,111,111,32,108,111,110,103]⟩ 2 lX (zb (by decide+kernel)) (by kernel_rfl) (by kernel_rfl)
theorem kt9:Tr 10 (λcl=>#[.pointer (some ⟨cl,0,none⟩),.string ⟨#[97,49]⟩]) kS0 (.int .i64 2) kS0:=yF ⟨#[97,49]⟩ 2 lX (zb (by decide+kernel)) (by kernel_rfl) (by kernel_rfl)
theorem kt10:Tr 8 (λcl=>#[.pointer (some ⟨cl,0,none⟩),.string ⟨#[97,98,99,100,101,102,103,104,105]⟩]) kS0 (.tuple #[.string ⟨#[]⟩,.int .i64 2]) kS0:=zV ⟨#[97,98,99,100,101,102,103,104,105]⟩ ⟨#[]⟩ 2 lX (zb (by decide+kernel)) (by kernel_rfl) (by kernel_rfl)
theorem kt11:Tr 9 (λcl=>#[.pointer (some ⟨cl,0,none⟩),.string ⟨#[97,98,99,100,101,102,103,104,105]⟩,.string ⟨#[97,32,118,97,108,117,101,32,116,111,111,32,108,111,110,103]⟩]) kS0 (.int .i64 2) kS0:=kr ⟨#[97,98,99,100,101,102,103,104,105]⟩ ⟨#[97,32,118,97,108,117,101,32,116,111,111,32,108,111,110,103]⟩ 2 lX (zb (by decide+kernel)) (by kernel_rfl) (by kernel_rfl)
theorem kt12:Tr 10 (λcl=>#[.pointer (some ⟨cl,0,none⟩),.string ⟨#[97,98,99,100,101,102,103,104,105]⟩]) kS0 (.int .i64 2) kS0:=yF ⟨#[97,98,99,100,101,102,103,104,105]⟩ 2 lX (zb (by decide+kernel)) (by kernel_rfl) (by kernel_rfl)
theorem kt13:Tr 8 (λcl=>#[.pointer (some ⟨cl,0,none⟩),.string ⟨#[97,32,98]⟩]) kS0 (.tuple #[.string ⟨#[]⟩,.int .i64 2]) kS0:=zV ⟨#[97,32,98]⟩ ⟨#[]⟩ 2 lX (zb (by decide+kernel)) (by kernel_rfl) (by kernel_rfl)
theorem kt14:Tr 9 (λcl=>#[.pointer (some ⟨cl,0,none⟩),.string ⟨#[97,32,98]⟩,.string ⟨#[97,32,118,97,108,117,101,32,116,111,111,32,108,111,110,103]⟩]) kS0 (.int .i64 2) kS0:=kr ⟨#[97,32,98]⟩ ⟨#[97,32,118,97,108,117,101,32,116,111,111,32,108,111,110,103]⟩ 2 lX (zb (by decide+kernel)) (by kernel_rfl) (by kernel_rfl)
theorem kt15:Tr 10 (λcl=>#[.pointer (some ⟨cl,0,none⟩),.string ⟨#[97,32,98]⟩]) kS0 (.int .i64 2) kS0:=yF ⟨#[97,32,98]⟩ 2 lX (zb (by decide+kernel)) (by kernel_rfl) (by kernel_rfl)
theorem kt16:Tr 8 (λcl=>#[.pointer (some ⟨cl,0,none⟩),.string ⟨#[206,177]⟩]) kS0 (.tuple #[.string ⟨#[]⟩,.int .i64 2]) kS0:=zV ⟨#[206,177]⟩ ⟨#[]⟩ 2 lX (zb (by decide+kernel)) (by kernel_rfl) (by kernel_rfl)
theorem kt17:Tr 9 (λcl=>#[.pointer (some ⟨cl,0,none⟩),.string ⟨#[206,177]⟩,.string ⟨#[97,32,118,97,108,117,101,32,116,111,111,32,108,111,110,103]⟩]) kS0 (.int .i64 2) kS0:=kr ⟨#[206,177]⟩ ⟨#[97,32,118,97,108,117,101,32,116,111,111,32,108,111,110,103]⟩ 2 lX (zb (by decide+kernel)) (by kernel_rfl) (by kernel_rfl)
theorem kt18:Tr 10 (λcl=>#[.pointer (some ⟨cl,0,none⟩),.string ⟨#[206,177]⟩]) kS0 (.int .i64 2) kS0:=yF ⟨#[206,177]⟩ 2 lX (zb (by decide+kernel)) (by kernel_rfl) (by kernel_rfl)
theorem kt19:Tr 9 (λcl=>#[.pointer (some ⟨cl,0,none⟩),.string ⟨#[97]⟩,.string ⟨#[49,50,51,52,53,54,55,56,57,48,49,50,51]⟩]) kS0 (.int .i64 3) kS0:=kr ⟨#[97]⟩ ⟨#[49,50,51,52,53,54,55,56,57,48,49,50,51]⟩ 3 lX (zb (by decide+kernel)) (by kernel_rfl) (by kernel_rfl)
theorem kt20:Tr 9 (λcl=>#[.pointer (some ⟨cl,0,none⟩),.string ⟨#[97]⟩,.string ⟨#[49,50,51,52,53,54,55,56,57,48,49,50]⟩]) kS0 (.int .i64 0) kS1:=kr ⟨#[97]⟩ ⟨#[49,50,51,52,53,54,55,56,57,48,49,50]⟩ 0 lX (zb (by decide+kernel)) (by kernel_rfl) (by kernel_rfl)
theorem kt21:Tr 10 (λcl=>#[.pointer (some ⟨cl,0,none⟩),.string ⟨#[98]⟩]) kS1 (.int .i64 6) kS1:=yF ⟨#[98]⟩ 6 Ty (zb (by decide+kernel)) (by kernel_rfl) (by kernel_rfl)
theorem kt22:Tr 9 (λcl=>#[.pointer (some ⟨cl,0,none⟩),.string ⟨#[97,98]⟩,.string ⟨#[97,98]⟩]) kS1 (.int .i64 0) kS2:=kr ⟨#[97,98]⟩ ⟨#[97,98]⟩ 0 Ty (zb (by decide+kernel)) (by kernel_rfl) (by kernel_rfl)
theorem kt23:Tr 9 (λcl=>#[.pointer (some ⟨cl,0,none⟩),.string ⟨#[97,98,99]⟩,.string ⟨#[97,98,99]⟩]) kS2 (.int .i64 0) kS3:=kr ⟨#[97,98,99]⟩ ⟨#[97,98,99]⟩ 0 kok2 (zb (by decide+kernel)) (by kernel_rfl) (by kernel_rfl)
theorem kt24:Tr 9 (λcl=>#[.pointer (some ⟨cl,0,none⟩),.string ⟨#[98]⟩,.string ⟨#[98]⟩]) kS3 (.int .i64 0) kS4:=kr ⟨#[98]⟩ ⟨#[98]⟩ 0 kok3 (zb (by decide+kernel)) (by kernel_rfl) (by kernel_rfl)
theorem kt25:Tr 9 (λcl=>#[.pointer (some ⟨cl,0,none⟩),.string ⟨#[103,103]⟩,.string ⟨#[103,103]⟩]) kS4 (.int .i64 0) kS5:=kr ⟨#[103,103]⟩ ⟨#[103,103]⟩ 0 kok4 (zb (by decide+kernel)) (by kernel_rfl) (by kernel_rfl)
theorem kt26:Tr 9 (λcl=>#[.pointer (some ⟨cl,0,none⟩),.string ⟨#[104]⟩,.string ⟨#[104]⟩]) kS5 (.int .i64 0) kS6:=kr ⟨#[104]⟩ ⟨#[104]⟩ 0 kok5 (zb (by decide+kernel)) (by kernel_rfl) (by kernel_rfl)
theorem kt27:Tr 9 (λcl=>#[.pointer (some ⟨cl,0,none⟩),.string ⟨#[109]⟩,.string ⟨#[109]⟩]) kS6 (.int .i64 0) kS7:=kr ⟨#[109]⟩ ⟨#[109]⟩ 0 kok6 (zb (by decide+kernel)) (by kernel_rfl) (by kernel_rfl)
theorem kt28:Tr 9 (λcl=>#[.pointer (some ⟨cl,0,none⟩),.string ⟨#[110]⟩,.string ⟨#[110]⟩]) kS7 (.int .i64 0) kS8:=kr ⟨#[110]⟩ ⟨#[110]⟩ 0 kok7 (zb (by decide+kernel)) (by kernel_rfl) (by kernel_rfl)
theorem kt29:Tr 9 (λcl=>#[.pointer (some ⟨cl,0,none⟩),.string ⟨#[116]⟩,.string ⟨#[116]⟩]) kS8 (.int .i64 0) kS9:=kr ⟨#[116]⟩ ⟨#[116]⟩ 0 kok8 (zb (by decide+kernel)) (by kernel_rfl) (by kernel_rfl)
theorem kt30:Tr 9 (λcl=>#[.pointer (some ⟨cl,0,none⟩),.string ⟨#[117]⟩,.string ⟨#[117]⟩]) kS9 (.int .i64 0) Jw:=kr ⟨#[117]⟩ ⟨#[117]⟩ 0 kok9 (zb (by decide+kernel)) (by kernel_rfl) (by kernel_rfl)
theorem kt31:Tr 9 (λcl=>#[.pointer (some ⟨cl,0,none⟩),.string ⟨#[122]⟩,.string ⟨#[122]⟩]) Jw (.int .i64 0) kI:=kr ⟨#[122]⟩ ⟨#[122]⟩ 0 jfj (zb (by decide+kernel)) (by kernel_rfl) (by kernel_rfl)
theorem kt32:Tr 12 (λcl=>#[.pointer (some ⟨cl,0,none⟩),.int .i64 (4),.int .i64 (9)]) kI (.int .i64 8) kI:=zZ (4) (9) 8 Bu (by decide) (by decide) (by kernel_rfl) (by kernel_rfl)
theorem kt33:Tr 12 (λcl=>#[.pointer (some ⟨cl,0,none⟩),.int .i64 (-1),.int .i64 (0)]) kI (.int .i64 8) kI:=zZ (-1) (0) 8 Bu (by decide) (by decide) (by kernel_rfl) (by kernel_rfl)
theorem kt34:Tr 12 (λcl=>#[.pointer (some ⟨cl,0,none⟩),.int .i64 (0),.int .i64 (2)]) kI (.int .i64 1) kI:=zZ (0) (2) 1 Bu (by decide) (by decide) (by kernel_rfl) (by kernel_rfl)
theorem kt35:Tr 12 (λcl=>#[.pointer (some ⟨cl,0,none⟩),.int .i64 (0),.int .i64 (-1)]) kI (.int .i64 1) kI:=zZ (0) (-1) 1 Bu (by decide) (by decide) (by kernel_rfl) (by kernel_rfl)
theorem kt36:Tr 12 (λcl=>#[.pointer (some ⟨cl,0,none⟩),.int .i64 (0),.int .i64 (0)]) kI (.int .i64 9) kI:=zZ (0) (0) 9 Bu (by decide) (by decide) (by kernel_rfl) (by kernel_rfl)
theorem kt37:Tr 12 (λcl=>#[.pointer (some ⟨cl,0,none⟩),.int .i64 (0),.int .i64 (1)]) kI (.int .i64 0) iO:=zZ (0) (1) 0 Bu (by decide) (by decide) (by kernel_rfl) (by kernel_rfl)
theorem kt38:Tr 12 (λcl=>#[.pointer (some ⟨cl,0,none⟩),.int .i64 (0),.int .i64 (0)]) iO (.int .i64 10) iO:=zZ (0) (0) 10 zU (by decide) (by decide) (by kernel_rfl) (by kernel_rfl)
theorem kt39:Tr 12 (λcl=>#[.pointer (some ⟨cl,0,none⟩),.int .i64 (0),.int .i64 (2)]) iO (.int .i64 1) iO:=zZ (0) (2) 1 zU (by decide) (by decide) (by kernel_rfl) (by kernel_rfl)
theorem kt40:Tr 13 (λcl=>#[.pointer (some ⟨cl,0,none⟩),.int .i64 (4)]) iO (.int .i64 8) iO:=KZ (4) 8 (by decide) (by kernel_rfl) (by kernel_rfl)
theorem kt41:Tr 13 (λcl=>#[.pointer (some ⟨cl,0,none⟩),.int .i64 (1)]) iO (.int .i64 11) iO:=KZ (1) 11 (by decide) (by kernel_rfl) (by kernel_rfl)
theorem kt42:Tr 14 (λcl=>#[.pointer (some ⟨cl,0,none⟩),.int .i64 (2)]) iO (.int .i64 1) iO:=Rl (2) 1 zU (by decide) (by kernel_rfl) (by kernel_rfl)
theorem kt43:Tr 15 (λcl=>#[.pointer (some ⟨cl,0,none⟩),.int .i64 (-1),.string ⟨#[]⟩]) iO (.int .i64 1) iO:=vC (-1) ⟨#[]⟩ 1 zU (by decide+kernel) (by kernel_rfl) (by kernel_rfl)
theorem kt44:Tr 16 (λcl=>#[.pointer (some ⟨cl,0,none⟩),.int .i64 (1)]) iO (.tuple #[.string ⟨#[]⟩,.int .i64 11]) iO:=u6 (1) ⟨#[]⟩ 11 zU (by decide) (by kernel_rfl) (by kernel_rfl) (by kernel_rfl)
theorem kt45:Tr 16 (λcl=>#[.pointer (some ⟨cl,0,none⟩),.int .i64 (9)]) iO (.tuple #[.string ⟨#[]⟩,.int .i64 8]) iO:=u6 (9) ⟨#[]⟩ 8 zU (by decide) (by kernel_rfl) (by kernel_rfl) (by kernel_rfl)
theorem kt46:Tr 17 (λcl=>#[.pointer (some ⟨cl,0,none⟩),.int .i64 (2),.string ⟨#[]⟩]) iO (.tuple #[.string ⟨#[]⟩,.int .i64 1]) iO:=vk (2) ⟨#[]⟩ ⟨#[]⟩ 1 zU (by decide) (by decide+kernel) (by kernel_rfl) (by kernel_rfl) (by kernel_rfl)
theorem kt47:Tr 16 (λcl=>#[.pointer (some ⟨cl,0,none⟩),.int .i64 (0)]) iO (.tuple #[.string ⟨#[1,0,1,0,0,231,139,34,216]⟩,.int .i64 0]) Ei:=u6 (0) ⟨#[1,0,1,0,0,231,139,34,216]⟩ 0 zU (by decide) (by kernel_rfl) (by kernel_rfl) (by kernel_rfl)
theorem kt48:Tr 17 (λcl=>#[.pointer (some ⟨cl,0,none⟩),.int .i64 (1),.string ⟨#[1,0,1,0,0,231,139,34,216]⟩]) Ei (.tuple #[.string ⟨#[5,0,1,0,0,87,53,103,56]⟩,.int .i64 0]) CV:=vk (1) ⟨#[1,0,1,0,0,231,139,34,216]⟩ ⟨#[5,0,1,0,0,87,53,103,56]⟩ 0 jfk (by decide) (by decide+kernel) (by kernel_rfl) (by kernel_rfl) (by kernel_rfl)
theorem kt49:Tr 15 (λcl=>#[.pointer (some ⟨cl,0,none⟩),.int .i64 (1),.string ⟨#[5,0,1,0,0,87,53,103,56]⟩]) CV (.int .i64 0) CV:=vC (1) ⟨#[5,0,1,0,0,87,53,103,56]⟩ 0 Sv (by decide+kernel) (by kernel_rfl) (by kernel_rfl)
theorem kt50:Tr 15 (λcl=>#[.pointer (some ⟨cl,0,none⟩),.int .i64 (0),.string ⟨#[5,0,1,0,0,87,53,103,56]⟩]) CV (.int .i64 0) Jv:=vC (0) ⟨#[5,0,1,0,0,87,53,103,56]⟩ 0 Sv (by decide+kernel) (by kernel_rfl) (by kernel_rfl)
theorem kt51:Tr 16 (λcl=>#[.pointer (some ⟨cl,0,none⟩),.int .i64 (0)]) Jv (.tuple #[.string ⟨#[2,0,1,1,35,4,0,1,97,12,49,50,51,52,53,54,55,56,57,48,49,50,1,1,98,2,97,98,2,1,99,3,97,98,99,0,1,98,1,98,72,209,207,92]⟩,.int .i64 0]) Eh:=u6 (0) ⟨#[2,0,1,1,35,4,0,1,97,12,49,50,51,52,53,54,55,56,57,48,49,50,1,1,98,2,97,98,2,1,99,3,97,98,99,0,1,98,1,98,72,209,207,92]⟩ 0 jfl (by decide) (by kernel_rfl) (by kernel_rfl) (by kernel_rfl)
theorem kt52:Tr 9 (λcl=>#[.pointer (some ⟨cl,0,none⟩),.string ⟨#[97,98,100]⟩,.string ⟨#[110,101,119]⟩]) Eh (.int .i64 0) Mk:=kr ⟨#[97,98,100]⟩ ⟨#[110,101,119]⟩ 0 jfm (zb (by decide+kernel)) (by kernel_rfl) (by kernel_rfl)
theorem kt53:Tr 10 (λcl=>#[.pointer (some ⟨cl,0,none⟩),.string ⟨#[98]⟩]) Mk (.int .i64 0) Eg:=yF ⟨#[98]⟩ 0 jfn (zb (by decide+kernel)) (by kernel_rfl) (by kernel_rfl)
theorem kt54:Tr 17 (λcl=>#[.pointer (some ⟨cl,0,none⟩),.int .i64 (1),.string ⟨#[2,0,1,1,35,4,0,1,97,12,49,50,51,52,53,54,55,56,57,48,49,50,1,1,98,2,97,98,2,1,99,3,97,98,99,0,1,98,1,98,72,209,207,92]⟩]) Eg (.tuple #[.string ⟨#[5,0,1,1,0,32,173,197,43]⟩,.int .i64 0]) zJ:=vk (1) ⟨#[2,0,1,1,35,4,0,1,97,12,49,50,51,52,53,54,55,56,57,48,49,50,1,1,98,2,97,98,2,1,99,3,97,98,99,0,1,98,1,98,72,209,207,92]⟩ ⟨#[5,0,1,1,0,32,173,197,43]⟩ 0 jfo (by decide) (by decide+kernel) (by kernel_rfl) (by kernel_rfl) (by kernel_rfl)
theorem kt55:Tr 17 (λcl=>#[.pointer (some ⟨cl,0,none⟩),.int .i64 (1),.string ⟨#[2,0,1,1,35,4,0,1,97,12,49,50,51,52,53,54,55,56,57,48,49,50,1,1,98,2,97,98,2,1,99,3,97,98,99,0,1,98,1,98,72,209,207,92]⟩]) zJ (.tuple #[.string ⟨#[5,0,1,1,0,32,173,197,43]⟩,.int .i64 0]) zJ:=vk (1) ⟨#[2,0,1,1,35,4,0,1,97,12,49,50,51,52,53,54,55,56,57,48,49,50,1,1,98,2,97,98,2,1,99,3,97,98,99,0,1,98,1,98,72,209,207,92]⟩ ⟨#[5,0,1,1,0,32,173,197,43]⟩ 0 Sr (by decide) (by decide+kernel) (by kernel_rfl) (by kernel_rfl) (by kernel_rfl)
theorem kt56:Tr 15 (λcl=>#[.pointer (some ⟨cl,0,none⟩),.int .i64 (0),.string ⟨#[5,0,1,1,0,32,173,197,43]⟩]) zJ (.int .i64 0) Ju:=vC (0) ⟨#[5,0,1,1,0,32,173,197,43]⟩ 0 Sr (by decide+kernel) (by kernel_rfl) (by kernel_rfl)
theorem kt57:Tr 16 (λcl=>#[.pointer (some ⟨cl,0,none⟩),.int .i64 (0)]) Ju (.tuple #[.string ⟨#[2,0,1,2,8,1,0,2,103,103,2,103,103,251,231,147,18]⟩,.int .i64 0]) Ef:=u6 (0) ⟨#[2,0,1,2,8,1,0,2,103,103,2,103,103,251,231,147,18]⟩ 0 jfp (by decide) (by kernel_rfl) (by kernel_rfl) (by kernel_rfl)
theorem kt58:Tr 17 (λcl=>#[.pointer (some ⟨cl,0,none⟩),.int .i64 (1),.string ⟨#[2,0,1,2,8,1,0,2,103,103,2,103,103,251,231,147,18]⟩]) Ef (.tuple #[.string ⟨#[5,0,1,2,0,185,5,34,31]⟩,.int .i64 0]) Js:=vk (1) ⟨#[2,0,1,2,8,1,0,2,103,103,2,103,103,251,231,147,18]⟩ ⟨#[5,0,1,2,0,185,5,34,31]⟩ 0 jfq (by decide) (by decide+kernel) (by kernel_rfl) (by kernel_rfl) (by kernel_rfl)
theorem kt59:Tr 15 (λcl=>#[.pointer (some ⟨cl,0,none⟩),.int .i64 (0),.string ⟨#[5,0,1,2,0,185,5,34,31]⟩]) Js (.int .i64 0) Jr:=vC (0) ⟨#[5,0,1,2,0,185,5,34,31]⟩ 0 jfr (by decide+kernel) (by kernel_rfl) (by kernel_rfl)
theorem kt60:Tr 16 (λcl=>#[.pointer (some ⟨cl,0,none⟩),.int .i64 (0)]) Jr (.tuple #[.string ⟨#[3,0,1,3,13,2,1,3,97,98,100,3,110,101,119,2,1,98,255,20,201,82]⟩,.int .i64 0]) Ee:=u6 (0) ⟨#[3,0,1,3,13,2,1,3,97,98,100,3,110,101,119,2,1,98,255,20,201,82]⟩ 0 jfs (by decide) (by kernel_rfl) (by kernel_rfl) (by kernel_rfl)
theorem kt61:Tr 17 (λcl=>#[.pointer (some ⟨cl,0,none⟩),.int .i64 (1),.string ⟨#[3,0,1,3,13,2,1,3,97,98,100,3,110,101,119,2,1,98,255,20,201,82]⟩]) Ee (.tuple #[.string ⟨#[5,0,1,3,0,206,157,128,12]⟩,.int .i64 0]) Jq:=vk (1) ⟨#[3,0,1,3,13,2,1,3,97,98,100,3,110,101,119,2,1,98,255,20,201,82]⟩ ⟨#[5,0,1,3,0,206,157,128,12]⟩ 0 jft (by decide) (by decide+kernel) (by kernel_rfl) (by kernel_rfl) (by kernel_rfl)
theorem kt62:Tr 15 (λcl=>#[.pointer (some ⟨cl,0,none⟩),.int .i64 (0),.string ⟨#[5,0,1,3,0,206,157,128,12]⟩]) Jq (.int .i64 0) Jp:=vC (0) ⟨#[5,0,1,3,0,206,157,128,12]⟩ 0 jfu (by decide+kernel) (by kernel_rfl) (by kernel_rfl)
theorem kt63:Tr 16 (λcl=>#[.pointer (some ⟨cl,0,none⟩),.int .i64 (0)]) Jp (.tuple #[.string ⟨#[4,0,1,4,0,39,59,252,78]⟩,.int .i64 0]) pE:=u6 (0) ⟨#[4,0,1,4,0,39,59,252,78]⟩ 0 jfv (by decide) (by kernel_rfl) (by kernel_rfl) (by kernel_rfl)
theorem kt64:Tr 7 (λcl=>#[.pointer (some ⟨cl,0,none⟩)]) pE (.agg #[.int .i64 0,.int .i64 0,.int .i64 1,.int .i64 0,.int .i64 1,.bool true,.bool false,.bool false,.bool false,.bool true,.bool false,.bool false,.bool false]) pE:=Ip #[.int .i64 0,.int .i64 0,.int .i64 1,.int .i64 0,.int .i64 1,.bool true,.bool false,.bool false,.bool false,.bool true,.bool false,.bool false,.bool false] (by kernel_rfl)
theorem kt65:Tr 9 (λcl=>#[.pointer (some ⟨cl,0,none⟩),.string ⟨#[97]⟩,.string ⟨#[120]⟩]) pE (.int .i64 5) pE:=kr ⟨#[97]⟩ ⟨#[120]⟩ 5 Hw (zb (by decide+kernel)) (by kernel_rfl) (by kernel_rfl)
theorem kt66:Tr 10 (λcl=>#[.pointer (some ⟨cl,0,none⟩),.string ⟨#[122,122]⟩]) pE (.int .i64 6) pE:=yF ⟨#[122,122]⟩ 6 Hw (zb (by decide+kernel)) (by kernel_rfl) (by kernel_rfl)
theorem kt67:Tr 13 (λcl=>#[.pointer (some ⟨cl,0,none⟩),.int .i64 (0)]) pE (.int .i64 12) pE:=KZ (0) 12 (by decide) (by kernel_rfl) (by kernel_rfl)
theorem kt68:Tr 9 (λcl=>#[.pointer (some ⟨cl,0,none⟩),.string ⟨#[97]⟩,.string ⟨#[49,50,51,52,53,54,55,56,57,48,49,50,51]⟩]) pE (.int .i64 3) pE:=kr ⟨#[97]⟩ ⟨#[49,50,51,52,53,54,55,56,57,48,49,50,51]⟩ 3 Hw (zb (by decide+kernel)) (by kernel_rfl) (by kernel_rfl)
theorem kt69:Tr 14 (λcl=>#[.pointer (some ⟨cl,0,none⟩),.int .i64 (1)]) pE (.int .i64 0) Bj:=Rl (1) 0 Hw (by decide) (by kernel_rfl) (by kernel_rfl)
theorem kt70:Tr 17 (λcl=>#[.pointer (some ⟨cl,0,none⟩),.int .i64 (1),.string ⟨#[4,0,1,4,0,39,59,252,78]⟩]) Bj (.tuple #[.string ⟨#[6,0,1,4,0,127,228,222,62]⟩,.int .i64 0]) Bj:=vk (1) ⟨#[4,0,1,4,0,39,59,252,78]⟩ ⟨#[6,0,1,4,0,127,228,222,62]⟩ 0 Sq (by decide) (by decide+kernel) (by kernel_rfl) (by kernel_rfl) (by kernel_rfl)
theorem kt71:Tr 15 (λcl=>#[.pointer (some ⟨cl,0,none⟩),.int .i64 (0),.string ⟨#[6,0,1,4,0,127,228,222,62]⟩]) Bj (.int .i64 0) Bh:=vC (0) ⟨#[6,0,1,4,0,127,228,222,62]⟩ 0 Sq (by decide+kernel) (by kernel_rfl) (by kernel_rfl)
theorem Tz:Tr 7 (λcl=>#[.pointer (some ⟨cl,0,none⟩)]) Bh (.agg #[.int .i64 0,.int .i64 0,.int .i64 1,.int .i64 0,.int .i64 1,.bool true,.bool false,.bool false,.bool false,.bool false,.bool false,.bool false,.bool false]) Bh:=Ip #[.int .i64 0,.int .i64 0,.int .i64 1,.int .i64 0,.int .i64 1,.bool true,.bool false,.bool false,.bool false,.bool false,.bool false,.bool false,.bool false] (by kernel_rfl)
theorem kt73:Tr 16 (λcl=>#[.pointer (some ⟨cl,0,none⟩),.int .i64 (0)]) Bh (.tuple #[.string ⟨#[1,0,2,0,0,148,75,12,50]⟩,.int .i64 0]) Mj:=u6 (0) ⟨#[1,0,2,0,0,148,75,12,50]⟩ 0 jfw (by decide) (by kernel_rfl) (by kernel_rfl) (by kernel_rfl)
theorem kt74:Tr 17 (λcl=>#[.pointer (some ⟨cl,0,none⟩),.int .i64 (1),.string ⟨#[1,0,2,0,0,148,75,12,50]⟩]) Mj (.tuple #[.string ⟨#[5,0,2,0,0,36,245,73,210]⟩,.int .i64 0]) Mi:=vk (1) ⟨#[1,0,2,0,0,148,75,12,50]⟩ ⟨#[5,0,2,0,0,36,245,73,210]⟩ 0 jfx (by decide) (by decide+kernel) (by kernel_rfl) (by kernel_rfl) (by kernel_rfl)
theorem kt75:Tr 15 (λcl=>#[.pointer (some ⟨cl,0,none⟩),.int .i64 (0),.string ⟨#[5,0,2,0,0,36,245,73,210]⟩]) Mi (.int .i64 0) Jo:=vC (0) ⟨#[5,0,2,0,0,36,245,73,210]⟩ 0 jfy (by decide+kernel) (by kernel_rfl) (by kernel_rfl)
theorem kt76:Tr 16 (λcl=>#[.pointer (some ⟨cl,0,none⟩),.int .i64 (0)]) Jo (.tuple #[.string ⟨#[2,0,2,1,37,4,0,1,97,12,49,50,51,52,53,54,55,56,57,48,49,50,1,1,98,2,97,98,2,1,99,3,97,98,99,2,1,100,3,110,101,119,217,222,212,124]⟩,.int .i64 0]) Mh:=u6 (0) ⟨#[2,0,2,1,37,4,0,1,97,12,49,50,51,52,53,54,55,56,57,48,49,50,1,1,98,2,97,98,2,1,99,3,97,98,99,2,1,100,3,110,101,119,217,222,212,124]⟩ 0 jfz (by decide) (by kernel_rfl) (by kernel_rfl) (by kernel_rfl)
theorem kt77:Tr 17 (λcl=>#[.pointer (some ⟨cl,0,none⟩),.int .i64 (1),.string ⟨#[2,0,2,1,37,4,0,1,97,12,49,50,51,52,53,54,55,56,57,48,49,50,1,1,98,2,97,98,2,1,99,3,97,98,99,2,1,100,3,110,101,119,217,222,212,124]⟩]) Mh (.tuple #[.string ⟨#[5,0,2,1,0,83,109,235,193]⟩,.int .i64 0]) Me:=vk (1) ⟨#[2,0,2,1,37,4,0,1,97,12,49,50,51,52,53,54,55,56,57,48,49,50,1,1,98,2,97,98,2,1,99,3,97,98,99,2,1,100,3,110,101,119,217,222,212,124]⟩ ⟨#[5,0,2,1,0,83,109,235,193]⟩ 0 jf0 (by decide) (by decide+kernel) (by kernel_rfl) (by kernel_rfl) (by kernel_rfl)
theorem kt78:Tr 15 (λcl=>#[.pointer (some ⟨cl,0,none⟩),.int .i64 (0),.string ⟨#[5,0,2,1,0,83,109,235,193]⟩]) Me (.int .i64 0) Jm:=vC (0) ⟨#[5,0,2,1,0,83,109,235,193]⟩ 0 jf1 (by decide+kernel) (by kernel_rfl) (by kernel_rfl)
theorem kt79:Tr 16 (λcl=>#[.pointer (some ⟨cl,0,none⟩),.int .i64 (0)]) Jm (.tuple #[.string ⟨#[2,0,2,2,8,1,0,2,103,103,2,103,103,73,137,237,174]⟩,.int .i64 0]) Md:=u6 (0) ⟨#[2,0,2,2,8,1,0,2,103,103,2,103,103,73,137,237,174]⟩ 0 jf2 (by decide) (by kernel_rfl) (by kernel_rfl) (by kernel_rfl)
theorem kt80:Tr 17 (λcl=>#[.pointer (some ⟨cl,0,none⟩),.int .i64 (1),.string ⟨#[2,0,2,2,8,1,0,2,103,103,2,103,103,73,137,237,174]⟩]) Md (.tuple #[.string ⟨#[5,0,2,2,0,202,197,12,245]⟩,.int .i64 0]) Mc:=vk (1) ⟨#[2,0,2,2,8,1,0,2,103,103,2,103,103,73,137,237,174]⟩ ⟨#[5,0,2,2,0,202,197,12,245]⟩ 0 jf3 (by decide) (by decide+kernel) (by kernel_rfl) (by kernel_rfl) (by kernel_rfl)
theorem kt81:Tr 15 (λcl=>#[.pointer (some ⟨cl,0,none⟩),.int .i64 (0),.string ⟨#[5,0,2,2,0,202,197,12,245]⟩]) Mc (.int .i64 0) Jl:=vC (0) ⟨#[5,0,2,2,0,202,197,12,245]⟩ 0 jf4 (by decide+kernel) (by kernel_rfl) (by kernel_rfl)
theorem kt82:Tr 16 (λcl=>#[.pointer (some ⟨cl,0,none⟩),.int .i64 (0)]) Jl (.tuple #[.string ⟨#[4,0,2,3,0,17,50,191,222]⟩,.int .i64 0]) Ma:=u6 (0) ⟨#[4,0,2,3,0,17,50,191,222]⟩ 0 jf5 (by decide) (by kernel_rfl) (by kernel_rfl) (by kernel_rfl)
theorem kt83:Tr 17 (λcl=>#[.pointer (some ⟨cl,0,none⟩),.int .i64 (1),.string ⟨#[4,0,2,3,0,17,50,191,222]⟩]) Ma (.tuple #[.string ⟨#[5,0,2,3,0,189,93,174,230]⟩,.int .i64 0]) L9:=vk (1) ⟨#[4,0,2,3,0,17,50,191,222]⟩ ⟨#[5,0,2,3,0,189,93,174,230]⟩ 0 jf6 (by decide) (by decide+kernel) (by kernel_rfl) (by kernel_rfl) (by kernel_rfl)
theorem kt84:Tr 15 (λcl=>#[.pointer (some ⟨cl,0,none⟩),.int .i64 (0),.string ⟨#[5,0,2,3,0,189,93,174,230]⟩]) L9 (.int .i64 0) nL:=vC (0) ⟨#[5,0,2,3,0,189,93,174,230]⟩ 0 jf7 (by decide+kernel) (by kernel_rfl) (by kernel_rfl)
theorem kt85:Tr 7 (λcl=>#[.pointer (some ⟨cl,0,none⟩)]) nL (.agg #[.int .i64 1,.int .i64 1,.int .i64 1,.int .i64 0,.int .i64 1,.bool false,.bool false,.bool false,.bool false,.bool false,.bool false,.bool false,.bool false]) nL:=Ip #[.int .i64 1,.int .i64 1,.int .i64 1,.int .i64 0,.int .i64 1,.bool false,.bool false,.bool false,.bool false,.bool false,.bool false,.bool false,.bool false] (by kernel_rfl)
theorem kt86:Tr 17 (λcl=>#[.pointer (some ⟨cl,0,none⟩),.int .i64 (1),.string ⟨#[4,0,2,3,0,17,50,191,222]⟩]) nL (.tuple #[.string ⟨#[6,0,2,3,0,73,237,157,174]⟩,.int .i64 0]) nL:=vk (1) ⟨#[4,0,2,3,0,17,50,191,222]⟩ ⟨#[6,0,2,3,0,73,237,157,174]⟩ 0 Hu (by decide) (by decide+kernel) (by kernel_rfl) (by kernel_rfl) (by kernel_rfl)
theorem kt87:Tr 8 (λcl=>#[.pointer (some ⟨cl,0,none⟩),.string ⟨#[97,98,100]⟩]) nL (.tuple #[.string ⟨#[110,101,119]⟩,.int .i64 0]) nL:=zV ⟨#[97,98,100]⟩ ⟨#[110,101,119]⟩ 0 Hu (zb (by decide+kernel)) (by kernel_rfl) (by kernel_rfl)
theorem kt88:Tr 8 (λcl=>#[.pointer (some ⟨cl,0,none⟩),.string ⟨#[98]⟩]) nL (.tuple #[.string ⟨#[]⟩,.int .i64 6]) nL:=zV ⟨#[98]⟩ ⟨#[]⟩ 6 Hu (zb (by decide+kernel)) (by kernel_rfl) (by kernel_rfl)
theorem kt89:Tr 9 (λcl=>#[.pointer (some ⟨cl,0,none⟩),.string ⟨#[97]⟩,.string ⟨#[120]⟩]) nL (.int .i64 0) L6:=kr ⟨#[97]⟩ ⟨#[120]⟩ 0 Hu (zb (by decide+kernel)) (by kernel_rfl) (by kernel_rfl)
end
section
open Go.Proofs.Ytkpekiajdlolnaa
def Of (n:Nat) (L:KV):Prop:= ∀p∈L,mr p.1=true/\jw p.1=n
section
variable {kv:Nat->KV}
end
end
section
open Go.Conc Go.ConcN Go.RowKit Go.Maps Go.Conc.Lib Go Sim
section
variable {w w' w0:ag} {F:Nat->Prop} {A:PA} {W:Nat} {lv wv:ae} {s s':St}
end
section
variable {w w' w0:ag} {F:Nat->Prop} {A:PA} {W:Nat} {lv wv:ae} {s s':St} {L:KV}
end
section
variable {w w' w0:ag} {F:Nat->Prop} {A:PA} {W:Nat} {lv wv:ae} {s s':St} {L:KV}
end
section
variable {w w' w0:ag} {F:Nat->Prop} {A:PA} {W:Nat} {lv wv:ae} {s s':St} {L:KV}
end
section
variable {w w' w0:ag} {F:Nat->Prop} {A:PA} {W:Nat} {wv:ae} {s s':St} {L:KV}
end
section
variable {w w' w0:ag} {F:Nat->Prop} {A:PA} {W:Nat} {lv wv:ae} {s s':St} {B:Nat}
end
section
variable {N:Blocks} {kv:List ae} {cs dX:List az} {w w1:ag} {Z:az->ag->Prop} {b:az} {k:List Item}
theorem qc.opn {x:Nat->ae} {v:ae} (fZ:blG b.fn=false) (ho:ops[i]?=some o) (fu:jL XG.P XG.P fb true (Sim.bare o)=true) (hw:au o (aJ ops (lay n x))=true) (hd:o.dst=some j)
  (hr:∀wc,Same w wc->(aA (aC (lay n x) []).eval o).run prog wc=.ok (.value v) wc) (nx:∀w',Same w w'->qc N kv cs (b.at ⟨lay n (upd x j v),[]⟩ (.inRegion ops td::k)) w' dX Z):qc N kv cs (b.at ⟨lay n x,[]⟩ (.inRegion ops (i::td)::k)) w dX Z:=by
 refine qc.op fZ 0 ho fu hw (Q:=λa w'=>a=⟨lay n (upd x j v),[]⟩/\Same w w') (λa w1 wc s h=>⟨h.1,h.2.trans s⟩) (λwc s=>?_) ?_
 ·refine wp_region_list ?_;refine wpList_plain (o:=Sim.bare o) rfl λK hK=>?_;have yJ:(aA (aC (lay n x) []).eval (Sim.bare o)).run XG.P wc=.ok (.value v) wc:=hr wc s;refine jh yJ (hK _ _ (wpList_nil ⟨rfl,?_,s⟩));show(aC (lay n x) []).put o.dst v=_;exact qi hd
 ·rintro _ w' ⟨rfl,hs⟩;exact nx w' hs
theorem Qj {e:aH->ae} {as':Array aH} {ty:Array aK} {fn:Func} (dU:o.op=.call {callee:=.value (.func f),args:=as',argTypes:=ty}) (hfe:e (.func f)=.func (.func f) #[] #[]) (hv:as'.map e=vs) (hf:prog.funcs[f]?=some fn) (jX:(fn.name== "runtime.NumGoroutine")=false) (hb:fn.body.isNone=false):
  ∀w,(aA e o).run XG.P w=.ok (.enter f vs) w/\(aA e o).events XG.P w #[]=#[]:=by
 intro w;show(aA _ _).run prog w=_/\(aA _ _).events prog w #[]=_;have hx:aA e o=callFunc f vs:=by subst hv;unfold aA;simp[go_sem,dU,resolve,invoke,hfe]
 rw[hx];have M4:¬(fn.name= "runtime.NumGoroutine"):=λe=>by rw[e]at jX;cases jX
 have fJ:¬(fn.body=none):=λe=>by rw[e]at hb;cases hb
 constructor
 ·simp[callFunc,go_sem,hf,M4,fJ]
 ·simp[callFunc,go_sem,hf,M4,fJ]
theorem qc.Tm {n r:Nat} {a:Act} {c:Code} {K:List Item} {fn:Func} {R:ae->ag->Prop} {V:ae->Prop} (fZ:blG b.fn=false) (qV:b.fn=f) (rR:b.kind=.normal) (hf:prog.funcs[f]?=some fn) (rq:fn.results=#[.tmp r]) (fu:codeOk XG.P XG.P fb true c=true) (hV:∀v,V v->∀ρ,VR XG.F ρ v v) (hS:∀v w wc,Same w wc->R v w->R v wc)
  (hp:∀wc,Same w wc->c.wp prog (fun|.ret,a,w'=>a.defers=[]/\V (a.tmps.getD r bj)/\R (a.tmps.getD r bj) w'|_,_,_=>False) a wc):
  qc N kv cs (b.at a (.code c::K)) w cs (y9 f R):=by
 refine qc.code fZ (Q:=fun|.ret,a,w'=>a.defers=[]/\V (a.tmps.getD r bj)/\R (a.tmps.getD r bj) w'|_,_,_=>False) fu (λe a w h=>by cases e<;>first|trivial|exact h) (λe a w1 wc s h=>by cases e<;>first|exact h.elim|exact⟨h.1,h.2.1,hS _ _ _ s h.2.2⟩) hp ?_;intro e a w2 fr hq hl;cases e<;>first|exact hq.elim|skip
 obtain⟨hd,hv,hR⟩:=hq;obtain⟨todo,rfl⟩:=hl;refine qc.done λwc hs=>⟨qV,_,⟨rfl,hd,rR,fn,by show XG.P.funcs[b.fn]?=some fn;rw[qV];exact hf,λw=>?_⟩,λρ _=>hV _ hv ρ,hS _ _ _ hs hR⟩
 show(results fn a.tmps).runT prog w #[]=_;simp[results,rq,go_sem]
theorem qc.opc {x:Nat->ae} {as':Array aH} {ty:Array aK} {fn:Func} {R:ae->ag->Prop} (fZ:blG b.fn=false) (ho:ops[i]?=some o) (fu:jL XG.P XG.P fb true (Sim.bare o)=true) (hw:au o (aJ ops (lay n x))=true) (hd:o.dst=some j)
  (dU:o.op=.call {callee:=.value (.func f),args:=as',argTypes:=ty}) (hv:as'.map (aC (lay n x) []).eval=vs) (hf:prog.funcs[f]?=some fn) (jX:(fn.name== "runtime.NumGoroutine")=false) (hb:fn.body.isNone=false) (hS:∀v w wc,Same w wc->R v w->R v wc)
  (hc:∀wc,Same w wc->ay prog f vs wc λe w'=>∃v,e=.returned v/\R v w') (nx:∀v w',R v w'->qc N kv cs (b.at ⟨lay n (upd x j v),[]⟩ (.inRegion ops td::k)) w' dX Z):qc N kv cs (b.at ⟨lay n x,[]⟩ (.inRegion ops (i::td)::k)) w dX Z:=by
 refine qc.op fZ 0 ho fu hw (Q:=λa w'=>∃v,a=⟨lay n (upd x j v),[]⟩/\R v w') (λa w1 wc s h=>⟨h.choose,h.choose_spec.1,hS _ _ _ s h.choose_spec.2⟩) (λwc s=>?_) ?_
 ·refine wp_region_list ?_;refine wpList_plain (o:=Sim.bare o) rfl λK hK=>?_;unfold Oper.wp;have hr:(aA (aC (lay n x) []).eval (Sim.bare o)).run XG.P wc=.ok (.enter f vs) wc:=(Qj dU rfl hv hf jX hb wc).1;rw[hr,Oper.upon_enter];refine(hc wc s).mono ?_;rintro e w' ⟨v,rfl,hR⟩;refine hK _ _ (wpList_nil ⟨rfl,v,?_,hR⟩);show(aC (lay n x) []).put o.dst v=_;exact qi hd
 ·rintro _ w' ⟨v,rfl,hR⟩;exact nx v w' hR
end
end
section
open Go.Conc Go.ConcN Go.RowKit Go.Maps Go Sim
theorem Qx (L:Nat->KV) (f:Bs×Bs->Bool) (most:Nat):∀i,jH most (λi=>((L i).filter f).length) (λi=>flat ((L i).filter f)) i=(((cat L f i).take most).length,flat ((cat L f i).take most))
 |0=>by simp[jH,cat,IW]
 |i+1=>by
  simp only[jH];rw[Qx L f most i];simp only[cat];have e0:most-((cat L f i).take most).length=most-(cat L f i).length:=by rw[aP];omega
  have e1:∀j,((L i).filter f).take (min ((L i).filter f).length j)=((L i).filter f).take j:=λj=>by
   rw[Nat.min_comm,<-List.take_take,List.take_length]
  rw[e0,QX,e1,List.take_append,RJ];congr 1;rw[List.length_append,aP (i:=most-_)];omega
theorem Qk {F:aU->Prop} {ρ:Rel}:∀{l:List MapEntry},(∀x∈l,ER F ρ x x)->EsR F ρ l l
 |[],_=>.nil
 |x::l,h=>.cons (h x (.head _)) (Qk λy hy=>h y (.tail _ hy))
theorem jaf {mb:Nat} {L:KV} (h:jf w mb L):∃p:Array MapEntry×Nat,w.heap[mb]?=some (.map p.1 p.2)/\(∀(F:aU->Prop) ρ,EsR F ρ p.1.toList p.1.toList)/\∀wl:ag,wl.heap[mb]?=some (.map p.1 p.2)->jf wl mb L:=by
 obtain⟨es,ck,h1,h2,h3⟩:=h;refine⟨(es,ck),h1,λF ρ=>Qk λx hx=>?_,λwl JL=>⟨es,ck,JL,h2,h3⟩⟩;obtain⟨y,hy⟩:=h2.reads x hx;have jF:=WideElems.rd_key hy;obtain⟨s,hs⟩:=Maps.keyOf_string_inv underlying9 jF;obtain⟨ky,vl,bn⟩:=x;subst hs;refine⟨.string s,?_,rfl⟩;unfold WideElems.rd at hy;simp only[Option.bind_eq_some_iff,Option.map_eq_some_iff]at hy;obtain⟨_,_,z,hz,_⟩:=hy;cases vl with
 |agg cs=>
  simp only[Rv]at hz;split at hz
  ·rename_i s' e;obtain⟨l⟩:=cs;subst e;exact .agg (.cons (.string s') .nil)
  ·cases hz
 |_=>cases hz
section
variable {N:Blocks} {kv:List ae} {w:ag} {cl:Nat} {db mb:Nat->Nat} {L:Nat->KV} {s t:ByteArray} {most:Nat}
theorem q1w {w:ag} {b:Nat} {v:ae} {l:KV} (h:EZ w b v l):ng (λ_=>True) w v l.length (flat l):=by
 refine⟨h.1.1,h.1.2.imp id ?_⟩;rintro⟨g,cap,cur,rfl,_,h2,h3,h4,h5,h6⟩;obtain⟨lU,O6,k1,k2⟩:=h.2 g rfl;rw[h2]at k1;cases k1;exact⟨g,cap,cur,rfl,trivial,h2,h3,h4,h6,k2⟩
theorem q15 (h:Clu w cl db mb L) (Gp:∀i,i<4->w.heap[db i]?=some (.cells #[.map (some (mb i))] 109 (0,0))) (Ob:∀i,i<4->wP (L i)) (jF:∀i,i<4->∀p∈L i,p.1.length<=8) (Dn:most<=9223372036854775807) (hN:∀b,N b->b<w.heap.size):
  ul N kv fS #[.pointer (some ⟨cl,0,none⟩),.string s,.string t,.int .i64 most] w λv w'=>
   ∃ov,v=.tuple #[ov,.int .i64 0]/\w'.ownsRow w.heap.size 44 2 ov ((cat L (inB s.data.toList t.data.toList) 4).take most).length (flat ((cat L (inB s.data.toList t.data.toList) 4).take most))/\(∀b,b<w.heap.size->w'.heap[b]?=w.heap[b]?)/\w.heap.size<=w'.heap.size/\w'.os=w.os/\w'.output=w.output:=by
 have hc:∀i,∃p:Array MapEntry×Nat,i<4->w.heap[mb i]?=some (.map p.1 p.2)/\(∀(F:aU->Prop) ρ,EsR F ρ p.1.toList p.1.toList)/\∀wl:ag,wl.heap[mb i]?=some (.map p.1 p.2)->jf wl (mb i) (L i):=λi=>by
  by_cases hi:i<4
  ·obtain⟨mv,hpi⟩:=h.p i hi;obtain⟨p,hp⟩:=jaf hpi.l;exact⟨p,λ_=>hp⟩
  ·exact⟨(#[],0),λeX=>absurd eX hi⟩
 obtain⟨es,iL⟩:=Classical.axiomOfChoice hc;have ht:=Qx L (inB s.data.toList t.data.toList) most 4;have:=XT (N:=N) (kv:=kv) (cl:=cl) (db:=db) (mb:=mb) (es:=λi=>(es i).1) (ck:=λi=>(es i).2) (s:=s) (t:=t) (m:=λi=>((L i).filter (inB s.data.toList t.data.toList)).length) (rows:=λi=>flat ((L i).filter (inB s.data.toList t.data.toList))) (w:=w) (most:=most)
  ⟨λi hi=>(h.p i hi).choose_spec.d,Gp,λi hi=>(iL i hi).1⟩ (λi hi=>(iL i hi).2.1) (λi hi wl hd hm=>by
   refine(P9 (w:=wl) (db:=db i) (mb:=mb i) (L:=L i) (by simp[aa,hd]) ((iL i hi).2.2 wl hm) (Ob i hi) (h.len i hi) (λp hp=>by have:=jF i hi p hp;unfold aL;omega) s t).mono ?_;rintro e w' ⟨v,rfl,hr,_⟩;exact q1w hr) (λi hi=>by
   have h1:=h.len i hi;have h2:((L i).filter (inB s.data.toList t.data.toList)).length<=(L i).length:=List.length_filter_le _ _;show((L i).filter (inB s.data.toList t.data.toList)).length<=_
   omega) Dn hN
 rw[ht]at this;exact this
end
end
section
open Go.Conc Go.ConcN Go.RowKit Go.Maps Go.Conc.Lib Go Sim
def cF:Code->Code
 |.seq a _=>a
 |c=>c
def cS:Code->Code
 |.seq _ b=>b
 |c=>c
def cR:Code->Array Oper
 |.region _ ops _=>ops
 |_=>#[]
section
variable {N:Blocks} {kv:List ae} {ks:List az} {w w' w0:ag} {F:Nat->Prop} {A:PA} {W:Nat} {lv wv:ae} {s s':St} {B:Nat} {x:Nat->ae}
theorem jcs (v:ae) (t:Array ae):(#[v]++t).getD 0 bj=v:=by
 rw[Array.getD_eq_getD_getElem?,Array.getElem?_append_left (by simp)];rfl
theorem Kt {F:aU->Prop} {ρ:Rel} {x:Nat->ae} (h:jq F ρ (lay n x).toList (lay n x).toList) (hj:j<n) {v:ae} (e:x j=v):VR F ρ v v:=by
 have:=jq.Dr h j;rwa [(IU hj).trans e]at this
end
section
variable {P:Program} {ops:Array Oper} {n m:Nat} {x0:Nat->ae} {KN:Nat->ae->ag->Prop} {J:ag->Prop}
end
section
variable {e:aH->ae} {o:Oper} {p q:aH} {w:ag}
end
def cBk:Code->Code
 |.block _ a=>a
 |c=>c
def cLp:Code->Code
 |.loop a=>a
 |c=>c
def cT:Code->Code
 |.cond _ a _=>a
 |c=>c
def JnL (n:Nat) (R:(Nat->ae)->ag->Prop):Exit->Act->ag->Prop
 |.normal,a,w=>∃x,a=⟨lay n x,[]⟩/\R x w
 |_,_,_=>False
theorem jeh {T:Array ae} (hs:T.size=n) (h:R (λi=>T.getD i bj) w):JnL n R .normal ⟨T,[]⟩ w:=⟨_,by rw[Fg hs],h⟩
section
variable {N:Blocks} {kv:List ae} {ks dX:List az} {Z:az->ag->Prop} {b:az} {K:List Item} {x:Nat->ae} {w:ag} {n:Nat}
theorem qc.jl {c:Code} (fZ:blG b.fn=false) (fu:codeOk XG.P XG.P fb true c=true) (hR:∀x w wc,Same w wc->R x w->R x wc) (hp:∀wc,Same w wc->c.wp prog (JnL n R) ⟨lay n x,[]⟩ wc)
  (nx:∀x' w',R x' w'->qc N kv ks (b.at ⟨lay n x',[]⟩ K) w' dX Z):qc N kv ks (b.at ⟨lay n x,[]⟩ (.code c::K)) w dX Z:=by
 refine qc.code fZ (Q:=JnL n R) fu (λe a w h=>by cases e<;>first|trivial|exact h) (λe a w1 wc s h=>by cases e<;>first|exact h.elim|exact⟨h.choose,h.choose_spec.1,hR _ _ _ s h.choose_spec.2⟩) hp ?_;intro e a w2 fr hq hl;cases e<;>first|exact hq.elim|skip
 obtain⟨x',rfl,hr⟩:=hq;cases hl;exact nx x' w2 hr
end
section
variable {w:ag}
end
theorem JnL.mono {R':(Nat->ae)->ag->Prop} (h:∀x w,R x w->R' x w) {e:Exit} {a:Act} (q:JnL n R e a w):JnL n R' e a w:=by
 cases e<;>first|exact q|exact⟨q.choose,q.choose_spec.1,h _ _ q.choose_spec.2⟩
section
variable {N:Blocks} {kv:List ae} {ks dX:List az} {Z:az->ag->Prop} {b:az} {K:List Item} {x:Nat->ae} {w:ag} {n:Nat}
end
section
variable {e:aH->ae} {o:Oper} {p q r:aH} {w:ag}
theorem q6e {x y:Int} (h:o.op=.binOp .neq 22 p q 22) (hp:e p=.int .i64 x) (hq:e q=.int .i64 y):(aA e o).run prog w=.ok (.value (.bool (!decide (x=y)))) w:=by
 have hu:=underlying22;unfold aA;by_cases hx:x=y<;>simp[go_sem,h,hp,hq,hu,hx]
end
def Ht (ops:Array Oper) (n tn:Nat):Bool:=
 ((aF ops.size).all λj=>match ops[j]? with
  |some o=>(match o.dst with|some d=>decide (d<n)|none=>false)&&(o.after.all λe=>decide (e.on<j)||!aI .any e)&&(match o.guard with|some g=>o.after.any (λe=>e.on==g.1&&aI .any e)|none=>true)&&((aF ops.size).all λi=>i==j||(match ops[i]? with|some p=>!(p.dst==o.dst)|none=>true))
  |none=>false)&&(decide (ops.size<=tn)||(((aF tn).all λi=>(waits ops tn ((aF ops.size).map λi=>i==tn) ops.size).getD i false)&&((aF ops.size).all λj=>decide (j<=tn)||(waits ops j ((aF ops.size).map λi=>i==j) ops.size).getD tn false)))
section
variable {P:Program} {ops:Array Oper} {n tn:Nat} {x0:Nat->ae} {val:Nat->ae} {J:Bool->ag->Prop}
theorem Qz (h:Ht ops n tn=true) (ho:ops[j]?=some o):(∃d,o.dst=some d/\d<n)/\(∀e∈o.after,aI .any e=true->e.on<j)/\(∀g t,o.guard=some (g,t)->∃e∈o.after,e.on=g/\aI .any e=true)/\∀i p,ops[i]?=some p->i≠j->p.dst≠o.dst:=by
 unfold Ht at h;simp only[ao]at h;have h:=h.1;rw[aQ]at h;have hj:j<ops.size:=(yc ho).1;have:=h j (aW.2 hj);rw[ho]at this;simp only[ao]at this;obtain⟨⟨⟨h1,h2⟩,h3⟩,h4⟩:=this;refine⟨?_,λe he hb=>?_,λg t hg=>?_,λi p hp eD hd=>?_⟩
 ·cases hd:o.dst with
  |none=>rw[hd]at h1;cases h1
  |some d=>rw[hd]at h1;exact⟨d,rfl,of_decide_eq_true h1⟩
 ·have:=(Array.all_eq_true_iff_forall_mem.1 h2) e he;rw[hb]at this;simpa using this
 ·rw[hg]at h3;rw[Array.any_eq_true']at h3;obtain⟨e,he,hb⟩:=h3;simp only[ao,beq_iff_eq]at hb;exact⟨e,he,hb.1,hb.2⟩
 ·rw[aQ]at h4;have hi:=(yc hp).1;have:=h4 i (aW.2 hi);rw[hp]at this;simp[eD,hd]at this
structure RD (ops:Array Oper) (n tn:Nat) (x0:Nat->ae) (val:Nat->ae) (J:Bool->ag->Prop) (listed:Array Bool) (a:Act) (w:ag):Prop where
 size:listed.size=ops.size
 shut:EY ops listed
 j:J (listed.getD tn false) w
 lay:∃x,a=⟨lay n x,[]⟩/\(∀s,(∀(j:Nat) o,ops[j]?=some o->o.dst≠some s)->x s=x0 s)/\∀(j:Nat) o d,listed.getD j false=true->ops[j]?=some o->o.dst=some d->x d=val j
end
section
variable {N:Blocks} {kv:List ae} {cs dX:List az} {w:ag} {Z:az->ag->Prop} {b:az} {a:Act} {k:List Item}
theorem qc.draw {id:Nat} (n:∀tt,qc N kv cs (b.at a (.inRegion ops (Region.schedule (XG.P.follows .mixedOrders) ops tt)::k)) w dX Z):qc N kv cs (b.at a (.code (.region id ops true)::k)) w dX Z:=λwc s gs sl t SB ρ q hc hN hK=>by
 have st:∀w1:ag,stepG XG.P true (G (b.at a (.code (.region id ops true)::k)) cs) w1=.go (G (b.at a (.inRegion ops (Region.schedule (XG.P.follows .mixedOrders) ops (w1.tape w1.drawn (.order b.fn id)))::k)) cs) {w1 with drawn:=w1.drawn+1} #[]:=λw1=>stepG_region_draw;obtain⟨N1,jV,a1,d,w1,es,iN,t1,q1,hr,hgo,hz,nI,tC,tu,_⟩:=BS (P:=XG.P) (SB:=SB) (sl:=sl) hc.g0 rfl hc.leavers hc.past λd=>⟨_,_,_,st _,jm _,by simp⟩
 rw[st]at hgo;injection hgo with e1 e2 e3;subst e1 e2 e3;generalize (wc.at d).tape (wc.at d).drawn (.order b.fn id)=tt at nI;have gy:Co XG fb blG SB ρ jV (b.at a (.inRegion ops (Region.schedule (XG.P.follows .mixedOrders) ops tt)::k)) cs {wc.at d with drawn:=(wc.at d).drawn+1} t1 q1:=⟨nI,tC,tu,⟨hc.foot.apart,hc.foot.low,hc.foot.own,hc.foot.foot⟩,hc.fr,hc.cs,⟨hc.wr.fn,hc.wr.inj,hc.wr.heap,λ_ _=>rfl,hc.wr.sh⟩,hc.nb⟩
 obtain⟨qX,gV,w2,p9,t2,yY,ρ2,q2,h4,h5,h6⟩:=n tt {wc.at d with drawn:=(wc.at d).drawn+1} (s.trans ⟨rfl,rfl,rfl⟩) jV iN t1 SB ρ q1 gy hN hK;exact⟨qX,gV,w2,p9,t2,yY,ρ2,q2,Runs.trans ⟨N1,hr⟩ h4,h5,h6⟩
end
section
variable {N:Blocks} {kv:List ae} {cs dX:List az} {Z:az->ag->Prop} {b:az} {k:List Item} {ops:Array Oper} {n tn:Nat} {x0:Nat->ae} {val:Nat->ae} {J:Bool->ag->Prop}
theorem Ym {listed:Array Bool} {fuel t:Nat} (h:ai .any ops listed≠[]):∃i t',i∈ai .any ops listed/\ak .any ops (fuel+1) t listed []=i::ak .any ops fuel t' (listed.setIfInBounds i true) []:=by
 have hlen:0<(ai .any ops listed).length:=List.length_pos_iff.2 h;have dW:=Nat.mod_lt t hlen;refine⟨(ai .any ops listed)[t%(ai .any ops listed).length],t/(ai .any ops listed).length,List.getElem_mem _,?_⟩;simp only[ak];change (match(ai .any ops listed)[t%(ai .any ops listed).length]? with
   |some i=>ak .any ops fuel (t/(ai .any ops listed).length) (listed.setIfInBounds i true) [i]
   |none=>[].reverse)=_
 rw[List.getElem?_eq_getElem dW];simp only;rw[linearise_go_acc];rfl
theorem XK {listed:Array Bool} {t:Nat} (hr:ai .any ops listed=[]):∀{fuel:Nat},ak .any ops fuel t listed []=[]
 |0=>rfl
 |fuel+1=>by
  simp only[ak];change (match(ai .any ops listed)[t%(ai .any ops listed).length]? with
    |some i=>ak .any ops fuel (t/(ai .any ops listed).length) (listed.setIfInBounds i true) [i]
    |none=>[].reverse)=_
  rw[hr];rfl
end
noncomputable def ckO (R:Array Oper) (n i j:Nat) (x:Nat->ae) (w:ag):Option (ae×ag):=
 match R[i]? with
 |none=>none
 |some o=>if jL XG.P XG.P fb true (Sim.bare o)&&(au o (aJ R (lay n x))&&o.dst==some j)then
   match(aA (aC (lay n x) []).eval o).run prog w with
   |.ok (.value v) w'=>some (v,w')
   |_=>none
  else none
noncomputable def ckL (R:Array Oper) (n:Nat):List (Nat×Nat×ae)->(Nat->ae)->ag->List (Option (ae×ag))
 |[],_,_=>[]
 |p::l,x,w=>ckO R n p.1 p.2.1 x w::ckL R n l (upd x p.2.1 p.2.2) w
def upx:List (Nat×Nat×ae)->(Nat->ae)->Nat->ae
 |[],x=>x
 |p::l,x=>upx l (upd x p.2.1 p.2.2)
noncomputable def ckC (R:Array Oper) (n i:Nat) (x:Nat->ae):Option (Nat×aU×Array ae):=
 match R[i]? with
 |none=>none
 |some o=>if jL XG.P XG.P fb true (Sim.bare o)&&au o (aJ R (lay n x))then
   match o.dst,o.op with
   |some j,.call ⟨.value (.func f),as',_⟩=>match prog.funcs[f]? with
    |some fn=>if !(fn.name== "runtime.NumGoroutine")&&!fn.body.isNone then some (j,f,as'.map (aC (lay n x) []).eval)else none
    |none=>none
   |_,_=>none
  else none
section
variable {N:Blocks} {kv:List ae} {cs dX:List az} {w:ag} {Z:az->ag->Prop} {b:az} {k:List Item} {R:Array Oper} {n i j:Nat} {x:Nat->ae} {w':ag} {v:ae} {rest:List Nat}
theorem Dw (h:ckO R n i j x w=some (v,w')):∃o,R[i]?=some o/\jL XG.P XG.P fb true (Sim.bare o)=true/\au o (aJ R (lay n x))=true/\o.dst=some j/\(aA (aC (lay n x) []).eval o).run prog w=.ok (.value v) w':=by
 unfold ckO at h;split at h
 ·cases h
 ·rename_i o ho;split at h
  ·rename_i hc;simp only[ao,beq_iff_eq]at hc;split at h
   ·rename_i hr;cases h;exact⟨o,ho,hc.1,hc.2.1,hc.2.2,hr⟩
   ·cases h
  ·cases h
theorem qc.pu:∀(L:List (Nat×Nat×ae)) {x:Nat->ae} {w:ag} {td:List Nat},blG b.fn=false->(td=L.map (·.1)++rest)->(∀wc,ckL R n L x wc=L.map λp=>some (p.2.2,wc))->(∀w',Same w w'->qc N kv cs (b.at ⟨lay n (upx L x),[]⟩ (.inRegion R rest::k)) w' dX Z)->qc N kv cs (b.at ⟨lay n x,[]⟩ (.inRegion R td::k)) w dX Z
 |[],x,w,td,_,ht,_,nx=>by subst ht;exact nx w (Same.refl w)
 |(i,j,v)::L,x,w,td,fZ,ht,hr,nx=>by
  subst ht;have h1:∀wc,ckO R n i j x wc=some (v,wc):=λwc=>(List.cons.inj (hr wc)).1;have h2:∀wc,ckL R n L (upd x j v) wc=L.map λp=>some (p.2.2,wc):=λwc=>(List.cons.inj (hr wc)).2;obtain⟨o,o1,o2,o3,o4,_⟩:=Dw (h1 w);refine qc.opn (j:=j) (o:=o) (v:=v) fZ o1 o2 o3 o4 (λwc _=>?_) λw1 s1=>qc.pu L fZ rfl h2 λw2 s2=>nx w2 (s1.trans s2);obtain⟨o',p1,_,_,_,p5⟩:=Dw (h1 wc);rw[o1]at p1;cases p1;exact p5
theorem ZM (h:ckC R n i x=some (j,f,vs)):∃o as' ty fn,R[i]?=some o/\jL XG.P XG.P fb true (Sim.bare o)=true/\au o (aJ R (lay n x))=true/\o.dst=some j/\o.op=.call {callee:=.value (.func f),args:=as',argTypes:=ty}/\as'.map (aC (lay n x) []).eval=vs/\prog.funcs[f]?=some fn/\(fn.name== "runtime.NumGoroutine")=false/\fn.body.isNone=false:=by
 unfold ckC at h;split at h
 ·cases h
 ·rename_i o ho;split at h
  ·rename_i hc;simp only[ao]at hc;split at h
   ·rename_i j2 f2 NG Kl hd dU;split at h
    ·rename_i fn qV;split at h
     ·rename_i hq;simp only[ao,Bool.not_eq_true']at hq;cases h;exact⟨o,NG,Kl,fn,ho,hc.1,hc.2,hd,dU,rfl,qV,hq.1,hq.2⟩
     ·cases h
    ·cases h
   ·cases h
  ·cases h
theorem qc.pq {Q:ae->ag->Prop} (fZ:blG b.fn=false) (ht:td=i::rest) (hk:ckC R n i x=some (j,f,vs)) (hS:∀v w wc,Same w wc->Q v w->Q v wc) (hc:∀wc,Same w wc->ay prog f vs wc λe w'=>∃v,e=.returned v/\Q v w') (nx:∀v w',Q v w'->qc N kv cs (b.at ⟨lay n (upd x j v),[]⟩ (.inRegion R rest::k)) w' dX Z):qc N kv cs (b.at ⟨lay n x,[]⟩ (.inRegion R td::k)) w dX Z:=by
 subst ht;obtain⟨o,as',ty,fn,h1,h2,h3,h4,h5,h6,h7,h8,h9⟩:=ZM hk;exact qc.opc fZ h1 h2 h3 h4 h5 h6 h7 h8 h9 hS hc nx
end
section
variable {N:Blocks} {kv:List ae} {cs dX:List az} {w:ag} {Z:az->ag->Prop} {b:az} {k:List Item} {R:Array Oper} {n i j:Nat} {x:Nat->ae} {v:ae} {rest td:List Nat} {w0:ag} {cl:Nat} {fx:List (Nat×Obj)} {s t:St}
theorem qc.pj (L:List (Nat×Nat×ae)) (fZ:blG b.fn=false) (ht:td=L.map (·.1)++rest) (hr:∀wc,ckL R n L x wc=L.map λp=>some (p.2.2,wc)) (h:CJ w0 cl fx s w) (nx:∀w',CJ w0 cl fx s w'->qc N kv cs (b.at ⟨lay n (upx L x),[]⟩ (.inRegion R rest::k)) w' dX Z):qc N kv cs (b.at ⟨lay n x,[]⟩ (.inRegion R td::k)) w dX Z:=
 qc.pu L fZ ht hr λw' s=>nx w' (h.same s)
theorem qc.pc {args:Nat->Array ae} (T:Tr f args s v t) (fZ:blG b.fn=false) (ht:td=i::rest) (hk:ckC R n i x=some (j,f,args cl)) (h:CJ w0 cl fx s w) (nx:∀w',CJ w0 cl fx t w'->qc N kv cs (b.at ⟨lay n (upd x j v),[]⟩ (.inRegion R rest::k)) w' dX Z):qc N kv cs (b.at ⟨lay n x,[]⟩ (.inRegion R td::k)) w dX Z:=by
 refine qc.pq (Q:=λu w'=>u=v/\CJ w0 cl fx t w') fZ ht hk (λu w1 wc sm q=>⟨q.1,q.2.same sm⟩) (λwc sm=>(T w0 cl fx wc (h.same sm)).mono λe w' q=>⟨_,q.1,rfl,q.2⟩) ?_;rintro _ w' ⟨rfl,h'⟩;exact nx w' h'
theorem qc.bs (m:Nat) (vs:Array ae) (ty:aK) (fZ:blG b.fn=false) (ht:td=i::rest) (hr:∀wc,ckO R n i j x wc=some (.slice (some ⟨wc.heap.size,0,none⟩) m m,wc.alloc (.cells vs ty))) (h:CJ w0 cl fx s w) (nx:∀g w',CJ w0 cl ((g,.cells vs ty (0,0))::fx) s w'->qc N kv cs (b.at ⟨lay n (upd x j (.slice (some ⟨g,0,none⟩) m m)),[]⟩ (.inRegion R rest::k)) w' dX Z):qc N kv cs (b.at ⟨lay n x,[]⟩ (.inRegion R td::k)) w dX Z:=by
 subst ht;obtain⟨o,o1,o2,o3,o4,_⟩:=Dw (hr w);refine qc.op fZ 0 o1 o2 o3 (Q:=λa w'=>∃g,a=⟨lay n (upd x j (.slice (some ⟨g,0,none⟩) m m)),[]⟩/\CJ w0 cl ((g,.cells vs ty (0,0))::fx) s w') (λa w1 wc sm q=>⟨q.choose,q.choose_spec.1,q.choose_spec.2.same sm⟩) (λwc sm=>?_) ?_
 ·refine wp_region_list ?_;refine wpList_plain (o:=Sim.bare o) rfl λK hK=>?_;have yJ:(aA (aC (lay n x) []).eval (Sim.bare o)).run XG.P wc=.ok (.value (.slice (some ⟨wc.heap.size,0,none⟩) m m)) (wc.alloc (.cells vs ty)):=by
   obtain⟨o',p1,_,_,_,p5⟩:=Dw (hr wc);rw[o1]at p1;cases p1;exact p5
  refine jh yJ (hK _ _ (wpList_nil ⟨rfl,wc.heap.size,?_,?_⟩))
  ·show(aC (lay n x) []).put o.dst _=_;exact qi o4
  ·exact(h.same sm).cons ((zi _ _).alloc (jm _) _) (jm _) (heap_alloc_new _ _)
 ·rintro _ w' ⟨g,rfl,h'⟩;exact nx g w' h'
theorem qc.ld {ty u:aK} {p:aH} {g q:Nat} {cur:Array ae} (fZ:blG b.fn=false) (ht:td=i::rest) (ho:R[i]?=some o) (fu:jL XG.P XG.P fb true (Sim.bare o)=true) (hw:au o (aJ R (lay n x))=true) (hd:o.dst=some j) (dU:o.op=.load ty p) (hA:∀w,(isAgg ty).run prog w=.ok false w) (hp:(aC (lay n x) []).eval p=.pointer (some ⟨g,q,none⟩)) (hm:(g,aG cur u (0,0))∈fx) (hv:cur[q]?=some v) (h:CJ w0 cl fx s w) (nx:∀w',CJ w0 cl fx s w'->qc N kv cs (b.at ⟨lay n (upd x j v),[]⟩ (.inRegion R rest::k)) w' dX Z):qc N kv cs (b.at ⟨lay n x,[]⟩ (.inRegion R td::k)) w dX Z:=by
 subst ht;refine qc.opn (j:=j) (o:=o) (v:=v) fZ ho fu hw hd (λwc sm=>?_) λw' sm=>nx w' (h.same sm);refine yg dU hp (hA wc) ?_;have hb:=(h.same sm).at hm;simp[aa,hb,hv]
end
end
end Ph
end Go.Proofs.Ytkpekiajdlolnaa
