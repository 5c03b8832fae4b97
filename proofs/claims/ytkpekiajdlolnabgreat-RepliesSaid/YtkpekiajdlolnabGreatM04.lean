/- PROVED: part 4 of the claim's ground. Conditions: those that each theorem names. -/
import Derived.Test.YtkpekiajdlolnabGreatM03
import Derived.Deep.WholeRow
import Derived.Laws.BitsAllLaws
import Derived.Lib.Hide
import Derived.Laws.IdiomStrings
import Derived.Deep.RegionWith
import Derived.Deep.RegionHeld3
import Derived.Test.YtkpekiajdlolnabGreatRows
import Derived.ProofKit
import Derived.OpenShut
import Derived.Carry
import Derived.Conc.Holds
import Derived.Deep.Slices
import Derived.ChangeArms
import Derived.Shelf.SlIter.Nil
import Derived.Shelf.SortM.Plain
import Derived.Shelf.SortM.SortNone
import Derived.Ground.GgzProg
import Derived.Ground.SlgmProg
import Derived.Sort.KeysCollected
import Derived.Sort.Walk0
import Derived.Sort.MapsRangeIn
import Derived.Maps.AppendAt
import Derived.Maps.Views
import Derived.Maps.RangeWalk
import Derived.DeepKeys5
import Derived.Deep.AppendSrc
import Derived.Deep.Upon
set_option linter.unusedVariables false
set_option linter.unusedSimpArgs false
set_option maxRecDepth 100000
set_option maxHeartbeats 16000000
open _root_ renaming rfl→lc,ByteArray→bn,Nat→dw,congrArg→eD,List→fo,Array→gF,Option→gI,Int→gJ,UInt8→gU,if_neg→gY,of_decide_eq_true→iO,if_pos→jb,Bool→je,absurd→jC,False→kw,decide_eq_true_eq→ky,if_true→kM
variable{L N b g h i j k m mb most n x:dw} {Q:Go.Exit->Go.Act->Go.World->Prop} {R:Go.Value->Go.World->Prop} {S v':Go.Value} {a:Go.Act} {e:Go.Operand->Go.Value} {f:Go.FuncId} {l s:fo gU} {o:Go.Oper} {ops:gF Go.Oper} {p:Go.Operand} {w w' w1 w2:Go.World} {xs:fo Go.Value} {ρ:Go.Proofs.YtkpekiajdlolnabGreat.Sim.Rel}
open Go.Proofs.Tryz
open Go renaming Value→aa,World→ac,execOp→ae,undef→ai,TypeId→ao,callFunc→aE,run_convert_bytes_back→aG,Calls→aR,yielded→aS,heap_alloc_old→aU,maxLen→bm,Frame→bp,heap_alloc_new→bB,MemPlace→bQ,wp_loop_rounds→bR,Operand→bV,wpList_append_own→ce,ofInt_u64→co,FuncId→cF,rounds_succ→cH,DataW→cJ,wpList_append_own_at→cK,bytesBefore→dy,Event→dJ,mem_ready→dK,Program→dP
open Go.Region renaming wanted→ah,ready→bD,binds→dh
open Go.Addr renaming add_lit→aj
open Go.World renaming cell?→al,ownsRow_nil→aP,frozen?→bz
open Array renaming getElem?_toList→am,getD_eq_getD_getElem?→aH,getElem?_append_left→aK,replicate→aZ,getElem?_eq_none→cC,getElem?_push→cP,ext'→cT
open List renaming getElem?_eq_some_iff→aq,range→au,getElem?_take_of_lt→ax,length_take→ay,length_append→aB,mem_range→aJ,getElem?_append_right→aL,getElem?_append_left→aM,take_succ_eq_append_getElem→aO,getElem?_eq_getElem→aQ,eq_nil_of_length_eq_zero→aV,take_of_length_le→aX,length_filter_le→bh,mem_of_getElem?→bi,mem_append_left→bj,all_eq_true→bk,mem_singleton→bA,take_append_drop→bG,append_assoc→bZ,mem_cons→cg,length_cons→cu,length_eq_zero_iff→cx,take_length→cA,length_map→cE,getElem?_drop→cU,pairwise_map→di,getElem?_map→dk,any_eq_true→dl,map_cons→dG,map_nil→dO
open Go.ByteArray renaming toList_eq→aw
open Nat renaming zero_add→az,mod_two_eq_zero_or_one→aA,xor_lt_two_pow→aW,pow_succ→cB,pow_le_pow_right→cG,mul_le_mul_right→cM,lt_of_le_of_lt→cQ,not_lt_zero→dz,not_le→dD,lt_or_ge→dR
open Go.RowKit renaming Below→aC
open Go.Op renaming bytesLess→aD
open And renaming intro→aF
open Go.Frame renaming enter→aI
open UInt8 renaming ofNat→aN
open Option renaming bind_some→aT,map_eq_some_iff→aY
open ByteArray renaming size_append→bg,data_append→bH
open Go.DataW renaming weights→bw,weightsEach→bE,weightsAll→bN
open BitVec renaming ofInt→bC
open Go.Value renaming ownBlock→bF,bool→bL,slice→bP,pointer→dH
open Go.Act renaming mk→bI
open Go.IntKind renaming wrap_u8'→bJ,wrap_i64→cn
open Bool renaming and_eq_true→bK,true_and→bO
open Option.some renaming injEq→bY
open Prod.mk renaming injEq→cj
open Or renaming inl→ι,inr→κ
open Bool renaming true→η,false→θ
open Option renaming none→ε,some→ζ
open Go.Item renaming inRegion→π
open Go.Value renaming bool→χ,int→σ,pointer→ξ,slice→Δ,string→Γ,agg→Θ,tuple→ο
open Go.IntKind renaming i64→υ,u8→Ξ
open Go.Ending renaming returned→ψ
open Go.Obj renaming cells→ω
open Decidable renaming decide→ν
namespace Go.Proofs.YtkpekiajdlolnabGreat.Ph
open Go.Conc Go.ConcN Go.RowKit Go.Maps Go.Conc.Lib Go Sim
def ek (l:fo (dw×aa)):bV->aa
 |.tmp j=>(l.lookup j).getD ai
 |.const v=>v
 |_=>ai
theorem Y8:∀(l:fo (dw×aa)) (j:dw),(l.lookup j).getD ai=ai\/∃p∈l,(l.lookup j).getD ai=p.2
 |[],j=>ι lc
 |p::l,j=>by obtain⟨a,v⟩:=p;rw[List.lookup_cons];by_cases e:j==a;{rw[e];exact κ ⟨_,.head _,lc⟩};simp only[Bool.not_eq_true]at e;rw[e];rcases Y8 l j with h|⟨p,d,q⟩;{exact ι h};exact κ ⟨p,.tail _ d,q⟩
theorem Io {l:fo (dw×aa)} (h:∀p∈l,VR XG.F ρ p.2 p.2):EvR XG.F fb ρ (ek l) (ek l):=by
 refine⟨λx q=>?_,λ_=>lc⟩;cases x with
 |tmp j=>rcases Y8 l j with e|⟨p,d,e⟩;{show VR XG.F ρ ((l.lookup j).getD ai) _;rw[show(ek l (.tmp j))=ai from e];rw[e];exact A9};show VR XG.F ρ ((l.lookup j).getD ai) (ek l (.tmp j));rw[show(ek l (.tmp j))=p.2 from e];rw[e];exact h p d
 |const v=>exact Jm (λ_ h=>h) _ q
 |_=>exact A9
section
variable {N:Blocks} {kv:fo aa} {cs fw:fo bp} {w:ac} {Z:bp->ac->Prop} {b:bp} {k:fo Item} {n i j:dw} {x:dw->aa} {ops:gF Oper} {td:fo dw} {o:Oper}
theorem jk {y:dw->gI je} (h:o.guard=ε):ah o y=η:=by unfold ah;rw[h]
theorem qg.bv (d:blG b.fn=η) (r:b.kind≠.early) (v:aa) (z:ops[i]?=ζ o) (q:o.dst=ζ j) (C:ah o (aS ops (lay n x))=η) (B:Pure (evx n x) o v)
  (D:qg N kv cs (b.at ⟨lay n (upd x j v),[]⟩ (π ops td::k)) w fw Z):qg N kv cs (b.at ⟨lay n x,[]⟩ (π ops (i::td)::k)) w fw Z:=by
 refine qg.val d r v z C B ?_;rw[q];show qg N kv cs (b.at ⟨(lay n x).setIfInBounds j v,[]⟩ _) w fw Z;rw[wI];exact D
theorem qg.bu (B:blG b.fn=η) (q:ops[i]?=ζ o) (d:o.dst=ζ j) (r:ah o (aS ops (lay n x))=θ)
  (z:qg N kv cs (b.at ⟨lay n (upd x j ai),[]⟩ (π ops td::k)) w fw Z):qg N kv cs (b.at ⟨lay n x,[]⟩ (π ops (i::td)::k)) w fw Z:=by
 refine qg.unwanted q r ?_;rw[d];show qg N kv cs (b.at ⟨(lay n x).setIfInBounds j ai,[]⟩ _) w fw Z;rw[wI];exact z
theorem qg.zU {c:dw} {p q:Code} {t:je} (d:c<n) (h:x c=χ t) (r:qg N kv cs (b.at ⟨lay n x,[]⟩ (.code (if t then p else q)::k)) w fw Z):qg N kv cs (b.at ⟨lay n x,[]⟩ (.code (.cond (.tmp c) p q)::k)) w fw Z:=
 qg.cond (tmp d h) r
theorem q7l {o:Oper} {w:ac} (O:kJ XG.P XG.P' fb η o=η) (X:EvR XG.F fb ρ e e) (D:WR XG ρ w w) (C:(ae e o).run XG.P w=.ok .skip w1):
  ∃d,ρ.le d/\WR XG d w1 w1/\qC (rng ρ) (own XG ρ) w (rng d) (own XG d) w1 ((ae e o).events XG.P w #[]):=by
 have Y:=SS.execOp zS.ok η zS.wrs o O e e X;obtain⟨d,E,T,U,r,z,B,h4,V,h6,h7⟩:=Y.1 w w _ w1 #[] D C;rw[show XG.P'=XG.P from lc]at r;have q:=eD Prod.fst r;rw[Sem.runT_fst,C]at q;have q:(Result.ok Next.skip w1:Result Next)=.ok E T:=q;injection q with G M;subst G;subst M;have J:(ae e o).events XG.P w #[]=U:=by have:=eD Prod.snd r;simpa[Sem.runT_eq]using this
 exact⟨d,B.le,z,by rw[J];exact Ji D B z V⟩
theorem qg.jfk {R:ac->Prop} (gQ:blG b.fn=η) (hk:b.kind≠.early) (ho:ops[i]?=ζ o) (fP:kJ XG.P XG.P' fb η o=η) (hw:ah o (aS ops a.tmps)=η)
  (iy:ae a.eval o=ae e o) (he:∀ρ,(∀v∈kv,VR XG.F ρ v v)->EvR XG.F fb ρ e e) (hr:∀wc,Same w wc->∃w1,(ae e o).run XG.P wc=.ok .skip w1/\R w1/\wc.heap.size<=w1.heap.size)
  (nx:∀w1,R w1->qg N kv cs (b.at (a.put o.dst ai) (π ops td::k)) w1 fw Z):qg N kv cs (b.at a (π ops (i::td)::k)) w fw Z:=λwc s gs sl t SB ρ q z hN X=>by
 have key:∀d,∃w1,(ae e o).run XG.P (wc.at d)=.ok .skip w1/\R w1/\wc.heap.size<=w1.heap.size:=λd=>hr (wc.at d) (s.trans (Same.at wc d));have su:∀d,WR XG ρ (wc.at d) (wc.at d):=λd=>⟨z.wr.fn,z.wr.inj,z.wr.heap,λ_ _=>lc,z.wr.sh⟩
 have J:∀d w1,(ae e o).run XG.P (wc.at d)=.ok .skip w1->stepG XG.P η (G (b.at a (π ops (i::td)::k)) cs) (wc.at d)=.go (G (b.at (a.put o.dst ai) (π ops td::k)) cs) w1 _:=λd w1 h=>
  stepG_none (P:=XG.P) (main:=η) (b:=b) (k:=k) (cs:=cs) (rest:=td) (a:=a) (w:=wc.at d) ho hw hk (by rw[iy];exact h)
 have step:∀d w1,(ae e o).run XG.P (wc.at d)=.ok .skip w1->
   ∃r,ρ.le r/\WR XG r w1 w1/\qC (rng ρ) (own XG ρ) (wc.at d) (rng r) (own XG r) w1 ((ae e o).events XG.P (wc.at d) #[]):=λd w1 h=>q7l fP (he ρ X) (su d) h
 have rH:∀(d:dw) (w1:ac) (r:Rel) (O:gF dJ),qC (rng ρ) (own XG ρ) (wc.at d) (rng r) (own XG r) w1 O->∀b,rng r b->¬SB b:=λd w1 r O B b C Y=>by rcases B.new b C with h1|h1;{exact z.foot.apart b h1 Y};have V:wc.heap.size<=b:=h1;have:=z.foot.low b Y;omega
 obtain⟨M,kI,a1,d,w1,O,jD,t1,q1,fA,E,hz,og,oL,qI,_⟩:=Af (P:=XG.P) (SB:=SB) (sl:=sl) z.g0 lc z.leavers z.past λd=>by obtain⟨w1,h1,_,T⟩:=key d;obtain⟨r,U,m2,B⟩:=step d w1 h1;refine⟨_,w1,_,J d w1 h1,T,λev iH=>?_⟩;have:=mem_listed iH;rw[iy]at this;exact Gf (B.ev ev this) (rH d w1 r _ B) B.low
 obtain⟨D,h1,V,T⟩:=key d;obtain⟨r,U,m2,B⟩:=step d D h1;rw[J d D h1]at E;injection E with e1 e2 e3;subst e1;subst e2;obtain⟨o8,iG,w2,oO,t2,uE,ρ2,q2,k1,k2,k3,k4,k5⟩:=nx D V D (Same.refl _) kI jD t1 SB r q1
  ⟨og,oL,qI,⟨rH d D r _ B,λb C=>xll (z.foot.low b C) T,B.own,B.low⟩,λC=>(by rw[show(b.at (a.put o.dst ai) (π ops td::k)).fn=b.fn from lc,gQ]at C;cases C),λc lK C=>(z.cs c lK C).mono U,m2,trivial⟩ hN
  (λx hx=>(X x hx).mono U)
 exact⟨o8,iG,w2,oO,t2,uE,ρ2,q2,Runs.trans ⟨M,fA⟩ k1,k2,k3,k4,k5⟩
theorem qg.Zp (gQ:blG b.fn=η) (hk:b.kind≠.early) (ho:ops[i]?=ζ o) (fP:kJ XG.P XG.P' fb η o=η) (hw:ah o (aS ops a.tmps)=η)
  (iy:ae a.eval o=ae e o) (he:∀ρ,(∀v∈kv,VR XG.F ρ v v)->EvR XG.F fb ρ e e) (hr:∀wc,Same w wc->∃v w1,(ae e o).run XG.P wc=.ok (.value v) w1/\R v w1/\wc.heap.size<=w1.heap.size)
  (n:∀v w1,R v w1->qg N kv cs (b.at (a.put o.dst v) (π ops td::k)) w1 fw Z):qg N kv cs (b.at a (π ops (i::td)::k)) w fw Z:=λwc s gs sl t SB ρ q z hN hK=>by
 have key:∀d,∃v w1,(ae e o).run XG.P (wc.at d)=.ok (.value v) w1/\R v w1/\wc.heap.size<=w1.heap.size:=λd=>hr (wc.at d) (s.trans (Same.at wc d));have su:∀d,WR XG ρ (wc.at d) (wc.at d):=λd=>⟨z.wr.fn,z.wr.inj,z.wr.heap,λ_ _=>lc,z.wr.sh⟩
 have O:∀d v w1,(ae e o).run XG.P (wc.at d)=.ok (.value v) w1->stepG XG.P η (G (b.at a (π ops (i::td)::k)) cs) (wc.at d)=.go (G (b.at (a.put o.dst v) (π ops td::k)) cs) w1 _:=λd v w1 h=>
  stepG_value (P:=XG.P) (main:=η) (b:=b) (k:=k) (cs:=cs) (rest:=td) (a:=a) (w:=wc.at d) ho hw hk (by rw[iy];exact h)
 have step:∀d v w1,(ae e o).run XG.P (wc.at d)=.ok (.value v) w1->wc.heap.size<=w1.heap.size->
   ∃r,ρ.le r/\WR XG r w1 w1/\VR XG.F r v v/\qC (rng ρ) (own XG ρ) (wc.at d) (rng r) (own XG r) w1 ((ae e o).events XG.P (wc.at d) #[]):=λd v w1 h _=>
  let⟨r,T,U,X,B,_⟩:=PO lc zS fP (he ρ hK) (su d) h
  ⟨r,T,U,X,B⟩
 have rH:∀(d:dw) (v:aa) (w1:ac) (r:Rel) (V:gF dJ),qC (rng ρ) (own XG ρ) (wc.at d) (rng r) (own XG r) w1 V->∀b,rng r b->¬SB b:=λd v w1 r V B b C hs=>by rcases B.new b C with h1|h1;{exact z.foot.apart b h1 hs};have Y:wc.heap.size<=b:=h1;have:=z.foot.low b hs;omega
 obtain⟨M,kI,a1,d,w1,V,jD,t1,q1,fA,J,hz,og,oL,qI,_⟩:=Af (P:=XG.P) (SB:=SB) (sl:=sl) z.g0 lc z.leavers z.past λd=>by obtain⟨v,w1,h1,_,E⟩:=key d;obtain⟨r,T,U,X,B⟩:=step d v w1 h1 E;refine⟨_,w1,_,O d v w1 h1,E,λev iH=>?_⟩;have:=mem_listed iH;rw[iy]at this;exact Gf (B.ev ev this) (rH d v w1 r _ B) B.low
 obtain⟨v,D,h1,Y,E⟩:=key d;obtain⟨r,T,U,X,B⟩:=step d v D h1 E;rw[O d v D h1]at J;injection J with e1 e2 e3;subst e1;subst e2;obtain⟨o8,iG,w2,oO,t2,uE,ρ2,q2,k1,k2,k3,k4,k5⟩:=n v D Y D (Same.refl _) kI jD t1 SB r q1
  ⟨og,oL,qI,⟨rH d v D r _ B,λb C=>xll (z.foot.low b C) E,B.own,B.low⟩,λC=>(by rw[show(b.at (a.put o.dst v) (π ops td::k)).fn=b.fn from lc,gQ]at C;cases C),λc lK C=>(z.cs c lK C).mono T,U,trivial⟩ hN
  (λx hx=>(hK x hx).mono T)
 exact⟨o8,iG,w2,oO,t2,uE,ρ2,q2,Runs.trans ⟨M,fA⟩ k1,k2,k3,k4,k5⟩
theorem qg.jd1 {fn:Func} {args:gF aa} (C:blG b.fn=η) (B:ops[i]?=ζ o) (D:o.dst=ζ j) (T:ah o (aS ops (lay n x))=η) (r:b.kind≠.early)
  (ev:∀w,(ae (evx n x) o).run XG.P w=.ok (.enter f args) w/\(ae (evx n x) o).events XG.P w #[]=#[]) (E:XG.P.funcs[f]?=ζ fn)
  (U:∀ρ,(∀v∈kv,VR XG.F ρ v v)->blG f=θ->vw XG.F ρ args.toList args.toList) (Y:∀v w wc,Same w wc->R v w->R v wc)
  (V:AP N kv f args w R) (X:∀v w',R v w'->qg N kv cs (b.at ⟨lay n (upd x j v),[]⟩ (π ops td::k)) w' fw Z):qg N kv cs (b.at ⟨lay n x,[]⟩ (π ops (i::td)::k)) w fw Z:=by
 have O:∀w,stepG XG.P η (G (b.at ⟨lay n x,[]⟩ (π ops (i::td)::k)) cs) w=.go (G (aI XG.P f args .normal) (b.at ⟨lay n x,[]⟩ (π ops (i::td)::k)::cs)) w #[]:=λw=>by rw[stepG_enter B T r (ev w).1];unfold listed;rw[(ev w).2,seen_none]
 refine qg.sil (.step O (.refl _ _)) (λρ z q r=>⟨λd=>FSt.enter E (U ρ r (by rw[<-Qo XG.P f args];exact d)),λc hc=>?_⟩) ((V _).then ?_);{rcases cg.1 hc with rfl|hc;{exact z};exact q c hc};rintro yg w1 ⟨vH,v,J,hv,M⟩;refine qg.sil (.step (λw=>Nr J) (.refl _ _)) (λρ z q _=>⟨λd=>?_,λc hc=>q c (.tail _ hc)⟩) ?_;{rw[Frame.Nh,show(b.at ⟨lay n x,[]⟩ (π ops (i::td)::k)).fn=b.fn from lc,C]at d;cases d};rw[Frame.finish_at,B];show qg N kv cs (b.at ((⟨lay n x,[]⟩:Act).put o.dst v) _) w1 fw Z;rw[D];show qg N kv cs (b.at ⟨(lay n x).setIfInBounds j v,[]⟩ _) w1 fw Z;rw[wI];exact X v w1 M
end
section
variable {e:bV->aa} {o:Oper} {a b c:bV} {v:aa} {m n:gJ} {t u:je} {ty:ao} {p:gI Addr} {l cp:dw}
theorem Pure.idx {d:dw} (h:o.op=.indexAddr 22 a b) (z:e a=Δ (ζ ⟨g,d,ε⟩) l cp) (B:e b=σ υ i) (E:i<l):Pure e o (ξ (ζ ⟨g,d+i*10,ε⟩)):=λw=>by
 have C:=underlying22;have q:(0:gJ)<=(i:gJ):=by omega
 have r:(i:gJ)<(l:gJ):=by omega
 have D:(⟨g,d,ε⟩:Addr).add (i*10)=⟨g,d+i*10,ε⟩:=aj ..;unfold ae;constructor<;>simp[go_sem,h,z,B,C,q,r,D]
end
theorem VR.move {F:cF->Prop} {d q:dw} (h:VR F ρ (ξ (ζ ⟨g,d,ε⟩)) (ξ (ζ ⟨g,d,ε⟩))):VR F ρ (ξ (ζ ⟨g,q,ε⟩)) (ξ (ζ ⟨g,q,ε⟩)):=by
 cases h with
 |ptr r=>exact .ptr r
section
variable {N:Blocks} {kv:fo aa} {cs fw:fo bp} {w:ac} {Z:bp->ac->Prop} {b:bp} {k:fo Item} {n i j:dw} {x:dw->aa} {ops:gF Oper} {td:fo dw} {o:Oper} {ty:ao} {a:dw} {g f:dw}
theorem qg.F5 {v:aa} (z:blG b.fn=η) (M:b.kind≠.early) (O:ops[i]?=ζ o) (d:o.op=.load ty (.tmp a)) (G:o.dst=ζ j) (T:ah o (aS ops (lay n x))=η) (D:a<n) (U:x a=ξ (ζ ⟨g,f,ε⟩))
  (X:ξ (ζ ⟨g,0,ε⟩)∈kv) (B:∀w,(isAgg ty).run prog w=.ok θ w) (E:w.cell? ⟨g,f,ε⟩=ζ v)
  (Y:qg N kv cs (b.at ⟨lay n (upd x j v),[]⟩ (π ops td::k)) w fw Z):qg N kv cs (b.at ⟨lay n x,[]⟩ (π ops (i::td)::k)) w fw Z:=by
 have r:kJ XG.P XG.P' fb η o=η:=by unfold kJ;rw[d];rfl
 have J:(bI (lay n x) []).eval (.tmp a)=ek [(a,ξ (ζ ⟨g,f,ε⟩))] (.tmp a):=by rw[show(bI (lay n x) []).eval (.tmp a)=x a from Gs D,U];simp[ek]
 refine qg.Zp (e:=ek [(a,ξ (ζ ⟨g,f,ε⟩))]) (R:=λv' w1=>v'=v/\Same w w1) z M O r T (by unfold ae;simp only[d];rw[J]) (λρ C=>Io λp q=>?_) (λwc s=>?_) ?_;{rw[bA]at q;subst q;exact VR.move (C _ X)};{refine⟨v,wc,?_,⟨lc,s⟩,jg _⟩;have V:wc.cell? ⟨g,f,ε⟩=ζ v:=(xcb (by rw[s.heap])).trans E;show(ae _ o).run prog wc=_;unfold ae;simp[go_sem,d,ek,B,V]};rintro _ w1 ⟨rfl,s⟩;rw[G];show qg N kv cs (b.at ⟨(lay n x).setIfInBounds j _,[]⟩ _) w1 fw Z;rw[wI];exact Y.same s
theorem qg.jfl {l:fo aa} (B:blG b.fn=η) (X:b.kind≠.early) (Y:ops[i]?=ζ o) (q:o.op=.load ty (.tmp a)) (T:o.dst=ζ j) (hw:ah o (aS ops (lay n x))=η) (M:a<n) (hx:x a=ξ (ζ ⟨g,0,ε⟩))
  (kF:ξ (ζ ⟨g,0,ε⟩)∈kv) (E:∀w d,(isAgg ty).runT prog w d=(.ok η w,d)) (J:∀w d,(sizeOf ty).runT prog w d=(.ok l.length w,d)) (O:∀j v,l[j]?=ζ v->w.cell? ⟨g,j,ε⟩=ζ v)
  (nx:qg N kv cs (b.at ⟨lay n (upd x j (.agg l.toArray)),[]⟩ (π ops td::k)) w fw Z):qg N kv cs (b.at ⟨lay n x,[]⟩ (π ops (i::td)::k)) w fw Z:=by
 have z:kJ XG.P XG.P' fb η o=η:=by unfold kJ;rw[q];rfl
 have U:(bI (lay n x) []).eval (.tmp a)=ek [(a,ξ (ζ ⟨g,0,ε⟩))] (.tmp a):=by rw[show(bI (lay n x) []).eval (.tmp a)=x a from Gs M,hx];simp[ek]
 refine qg.Zp (e:=ek [(a,ξ (ζ ⟨g,0,ε⟩))]) (R:=λv' w1=>v'=.agg l.toArray/\Same w w1) B X Y z hw (by unfold ae;simp only[q];rw[U]) (λρ G=>Io λp r=>?_) (λwc s=>?_) ?_;{rw[bA]at r;subst r;exact G _ kF}
 .refine⟨.agg l.toArray,wc,?_,⟨lc,s⟩,jg _⟩;obtain⟨gW,C,_⟩:=Yg (P:=prog) (w:=wc) (a:=⟨g,0,ε⟩) (ty:=ty) l (E _) (J _) λj v V=>by rw[aj,az];exact(xcb (by rw[s.heap])).trans (O j v V)
  have D:(Instr.loadAt ty (ξ (ζ ⟨g,0,ε⟩))).run prog wc=.ok (.agg l.toArray) wc:=by rw[<-Sem.runT_fst prog _ _ #[],C]
  show(ae _ o).run prog wc=_;unfold ae;simp only[q];rw[show ek [(a,ξ (ζ ⟨g,0,ε⟩))] (.tmp a)=ξ (ζ ⟨g,0,ε⟩) by simp[ek]];simp only[Sem.run_bind,D,Result.andThen_ok,Sem.run_pure]
 .rintro _ w1 ⟨rfl,s⟩;rw[T];show qg N kv cs (b.at ⟨(lay n x).setIfInBounds j _,[]⟩ _) w1 fw Z;rw[wI];exact nx.same s
theorem qg.Zq {z:aa} (r:blG b.fn=η) (C:b.kind≠.early) (D:ops[i]?=ζ o) (d:o.op=.alloc ty) (B:o.dst=ζ j) (G:ah o (aS ops (lay n x))=η) (q:kJ XG.P XG.P' fb η o=η) (J:∀w,(zeroValue ty).run prog w=.ok z w)
  (M:qg N (ξ (ζ ⟨w.heap.size,0,ε⟩)::kv) cs (b.at ⟨lay n (upd x j (ξ (ζ ⟨w.heap.size,0,ε⟩))),[]⟩ (π ops td::k)) (w.alloc (.cells z.cells ty)) fw Z):qg N kv cs (b.at ⟨lay n x,[]⟩ (π ops (i::td)::k)) w fw Z:=by
 refine qg.blind (e:=ek []) (R:=λv' w1=>v'=ξ (ζ ⟨w.heap.size,0,ε⟩)/\Same (w.alloc (.cells z.cells ty)) w1) r C D q G (by unfold ae;simp only[d]) (λρ O=>Io λp E=>(by cases E)) (λwc s=>?_) ?_;{refine⟨_,wc.alloc (.cells z.cells ty),?_,⟨lc,⟨?_,s.os,s.output⟩⟩,by simp⟩;{rw[<-s.heap];show(ae _ o).run prog wc=_;unfold ae;simp[go_sem,d,Instr.alloc,J]};show wc.heap.push _=w.heap.push _;rw[s.heap]};rintro _ w1 ⟨rfl,s⟩;rw[B];show qg N _ cs (b.at ⟨(lay n x).setIfInBounds j _,[]⟩ _) w1 fw Z;rw[wI];exact M.same s
theorem qg.bbox {l:fo aa} (z:blG b.fn=η) (E:b.kind≠.early) (J:ops[i]?=ζ o) (d:o.op=.box ty (.tmp a)) (C:o.dst=ζ j) (M:ah o (aS ops (lay n x))=η) (B:a<n) (O:x a=.agg l.toArray) (G:∀ρ,VR XG.F ρ (.agg l.toArray) (.agg l.toArray))
  (T:qg N (ξ (ζ ⟨w.heap.size,0,ε⟩)::kv) cs (b.at ⟨lay n (upd x j (ξ (ζ ⟨w.heap.size,0,ε⟩))),[]⟩ (π ops td::k)) (w.alloc (.cells l.toArray ty)) fw Z):qg N kv cs (b.at ⟨lay n x,[]⟩ (π ops (i::td)::k)) w fw Z:=by
 have r:kJ XG.P XG.P' fb η o=η:=by unfold kJ;rw[d];rfl
 have D:(bI (lay n x) []).eval (.tmp a)=ek [(a,.agg l.toArray)] (.tmp a):=by rw[show(bI (lay n x) []).eval (.tmp a)=x a from Gs B,O];simp[ek]
 refine qg.blind (e:=ek [(a,.agg l.toArray)]) (R:=λv' w1=>v'=ξ (ζ ⟨w.heap.size,0,ε⟩)/\Same (w.alloc (.cells l.toArray ty)) w1) z E J r M (by unfold ae;simp only[d];rw[D]) (λρ U=>Io λp q=>?_) (λwc s=>?_) ?_;{rw[bA]at q;subst q;exact G ρ};{refine⟨_,wc.alloc (.cells l.toArray ty),?_,⟨lc,⟨?_,s.os,s.output⟩⟩,by simp⟩;{rw[<-s.heap];show(ae _ o).run prog wc=_;unfold ae;simp[go_sem,d,Instr.box,ek,Value.cells]};show wc.heap.push _=w.heap.push _;rw[s.heap]};rintro _ w1 ⟨rfl,s⟩;rw[C];show qg N _ cs (b.at ⟨(lay n x).setIfInBounds j _,[]⟩ _) w1 fw Z;rw[wI];exact T.same s
theorem qg.Zn {c:dw} {l z:fo aa} {w0:ac} (T:blG b.fn=η) (hk:b.kind≠.early) (ho:ops[i]?=ζ o) (r:o.op=.store ty (.tmp a) (.tmp c)) (Y:o.dst=ε) (hw:ah o (aS ops (lay n x))=η) (X:a<n) (J:x a=ξ (ζ ⟨w0.heap.size,0,ε⟩)) (C:c<n) (q:x c=.agg l.toArray)
  (kF:ξ (ζ ⟨w0.heap.size,0,ε⟩)∈kv) (hl:∀ρ,VR XG.F ρ (.agg l.toArray) (.agg l.toArray)) (M:w=w0.alloc (.cells z.toArray ty)) (hi:(prog.info? ty).map (·.size)=ζ l.length) (hz:z.length=l.length) (U:l.all (·.oneCell')=η)
  (nx:qg N kv cs (b.at ⟨lay n x,[]⟩ (π ops td::k)) (w0.alloc (.cells l.toArray ty)) fw Z):qg N kv cs (b.at ⟨lay n x,[]⟩ (π ops (i::td)::k)) w fw Z:=by
 have O:kJ XG.P XG.P' fb η o=η:=by unfold kJ;rw[r];rfl
 subst M;by_cases uz:a=c;{subst uz;rw[J]at q;cases q};have he:(bI (lay n x) []).eval (.tmp a)=ek [(a,ξ (ζ ⟨w0.heap.size,0,ε⟩)),(c,.agg l.toArray)] (.tmp a):=by rw[show(bI (lay n x) []).eval (.tmp a)=x a from Gs X,J];simp[ek]
 have B:(c==a)=θ:=by simpa using λe=>uz e.symm
 have d:ek [(a,ξ (ζ ⟨w0.heap.size,0,ε⟩)),(c,.agg l.toArray)] (.tmp c)=.agg l.toArray:=by simp[ek,List.lookup_cons,B]
 refine qg.jfk (e:=ek [(a,ξ (ζ ⟨w0.heap.size,0,ε⟩)),(c,.agg l.toArray)]) (R:=λw1=>Same (w0.alloc (.cells l.toArray ty)) w1) T hk ho O hw (by unfold ae;simp only[r];rw[he,d,show(bI (lay n x) []).eval (.tmp c)=.agg l.toArray from(Gs C).trans q]) (λρ V=>Io λp G=>?_) (λwc s=>?_) ?_;{simp only[cg,List.not_mem_nil,or_false]at G;rcases G with rfl|rfl;{exact V _ kF};exact hl ρ}
 .have E:wc.heap[w0.heap.size]?=ζ (.cells z.toArray ty (0,0)):=by rw[s.heap];exact bB _ _
  have D:=run_storeVar_row (P:=prog) wc w0.heap.size ty ty z.toArray l.toArray E (by simpa using hi) (by simpa using hz) (by simpa using U);refine⟨wc.setRow w0.heap.size l.toArray,?_,⟨?_,?_,?_⟩,?_⟩;{show(ae _ o).run prog wc=_;unfold ae;simp only[r];rw[d,show ek [(a,ξ (ζ ⟨w0.heap.size,0,ε⟩)),(c,.agg l.toArray)] (.tmp a)=ξ (ζ ⟨w0.heap.size,0,ε⟩) by simp[ek]];simp only[Instr.storeAt,Instr.sureAddr,Sem.run_bind,Sem.run_pure,Result.andThen_ok,D]};{apply Array.ext_getElem?;intro m;by_cases e:m=w0.heap.size;{subst e;rw[setRow_heap wc _ _ _ _ _ E];exact(bB _ _).symm};rw[setRow_other wc _ _ _ e,s.heap];show(w0.heap.push _)[m]?=(w0.heap.push _)[m]?;rw[cP,cP,gY e,gY e]};{exact s.os};{exact s.output};simp[World.setRow]
 .intro w1 s;rw[Y];exact nx.same s
end
end Go.Proofs.YtkpekiajdlolnabGreat.Ph
namespace Go.Proofs.YtkpekiajdlolnabGreat
section
def poly:dw:=2197175160
def Gj (x:dw):dw:=if x%2=1 then(x/2)^^^poly else x/2
def Er (x bit:dw):dw:=if bit≠x%2 then(x/2)^^^poly else x/2
def CV:dw->dw->dw
 |0,x=>x
 |k+1,x=>Gj (CV k x)
def wJ (b:dw):dw->dw->dw
 |0,x=>x
 |k+1,x=>Er (wJ b k x) (b/2^k%2)
theorem q89 (a b:dw):(a^^^b)/2=(a/2)^^^(b/2):=by apply Nat.eq_of_testBit_eq;intro i;simp[Nat.testBit_div_two,Nat.testBit_xor]
theorem jdn (a b:dw):(a^^^b)%2=(a%2+b%2)%2:=by have h:=Nat.testBit_xor a b 0;simp only[Nat.testBit_zero]at h;have e1:=aA a;have e2:=aA b;have e3:=aA (a^^^b);rcases e1 with e1|e1<;>rcases e2 with e2|e2<;>rcases e3 with e3|e3<;>simp[e1,e2,e3]at h|-
theorem WV (x b:dw):∀k,CV k (x^^^b)=wJ b k x^^^(b/2^k)
 |0=>by simp[CV,wJ]
 |k+1=>by
  rw[CV,wJ,WV x b k];have d:b/2^(k+1)=b/2^k/2:=by rw[cB,Nat.div_div_eq_div_mul]
  rw[d];generalize wJ b k x=m;generalize b/2^k=c;unfold Gj Er;rw[jdn,q89];have e1:=aA m;have e2:=aA c;have sw:(m/2^^^c/2)^^^poly=(m/2^^^poly)^^^c/2:=by rw[Nat.xor_assoc,Nat.xor_assoc,Nat.xor_comm (c/2) poly]
  rcases e1 with e1|e1<;>rcases e2 with e2|e2<;>simp[e1,e2,sw]
theorem VO:poly<2^32:=by decide
theorem qw0 (h:x<2^32):Gj x<2^32:=by unfold Gj;split;{exact aW (by omega) VO};omega
theorem q08 (h:x<2^32):Er x b<2^32:=by unfold Er;split;{exact aW (by omega) VO};omega
theorem QX {x:dw} (h:x<2^32):∀k,CV k x<2^32
 |0=>h
 |k+1=>qw0 (QX h k)
theorem Yb {x b:dw} (h:x<2^32):∀k,wJ b k x<2^32
 |0=>h
 |k+1=>q08 (Yb h k)
def Gl (x:dw) (b:gU):dw:=CV 8 (x^^^b.toNat)
theorem qr0 (x:dw) (b:gU):Gl x b=wJ b.toNat 8 x:=by unfold Gl;rw[WV];have:b.toNat/2^8=0:=Nat.div_eq_of_lt b.toNat_lt;rw[this,Nat.xor_zero]
theorem xM (b:gU):b.toNat<256:=b.toNat_lt
theorem qwz {b:gU} (h:x<2^32):Gl x b<2^32:=QX (aW h (by have:=xM b;omega)) 8
def tH (l:fo gU):dw:=l.foldl Gl 4294967295
theorem VB:∀(l:fo gU) (x:dw),x<2^32->l.foldl Gl x<2^32
 |[],_,h=>h
 |_::l,_,h=>VB l _ (qwz h)
theorem Js (l:fo gU):tH l<2^32:=VB l _ (by decide)
theorem Yk (l:fo gU) (b:gU):tH (l++[b])=Gl (tH l) b:=by simp[tH]
def chk (l:fo gU):dw:=4294967295-tH l
theorem Pp (l:fo gU):chk l<2^32:=by unfold chk;omega
def b8 (n:dw):gU:=aN n
def yj (n:dw):fo gU:=if h:n<128 then[b8 n]else b8 (128+n%128)::yj (n/128)
termination_by n
decreasing_by omega
theorem EH (h:n<128):yj n=[b8 n]:=by rw[yj,dif_pos h]
theorem Gy (h:¬n<128):yj n=b8 (128+n%128)::yj (n/128):=by rw[yj,dif_neg h]
def zo (s:fo gU):fo gU:=yj s.length++s
def oQ:dw->je->dw->dw->fo gU->gI (dw×fo gU)
 |0,_,_,_,_=>ε
 |_+1,_,_,_,[]=>ε
 |k+1,first,a,m,b::s=>if !first&&b.toNat==0 then ε else if b.toNat<128 then ζ (a+b.toNat*m,s)else oQ k θ (a+b.toNat%128*m) (m*128) s
def zw (s:fo gU):gI (dw×fo gU):=oQ 4 η 0 1 s
def zu (s:fo gU):gI (fo gU×fo gU):=(zw s).bind λp=>if p.2.length<p.1 then ε else ζ (p.2.take p.1,p.2.drop p.1)
theorem VS:∀(k:dw) (first:je) (a m:dw) (s:fo gU) (n:dw) (r:fo gU),oQ k first a m s=ζ (n,r)->∃d,n=a+d*m/\s=yj d++r/\(first=θ->0<d)/\d<128^k
 |0,_,_,_,_,_,_,h=>by simp[oQ]at h
 |_+1,_,_,_,[],_,_,h=>by simp[oQ]at h
 |k+1,first,a,m,b::s,n,r,h=>by
  rw[oQ]at h;split at h;{cases h}
  .rename_i M;split at h
   .rename_i q;simp only[bY,cj]at h;obtain⟨rfl,rfl⟩:=h;refine⟨b.toNat,lc,?_,λO=>?_,?_⟩;{rw[EH q];simp[b8]};{subst O;simp at M;omega}
    .calc b.toNat<128:=q
      _=128^1:=lc
      _<=128^(k+1):=cG (by decide) (by omega)
   .rename_i q;obtain⟨d,G,J,z,U⟩:=VS k θ _ _ s n r h;have T:=xM b;refine⟨b.toNat%128+128*d,?_,?_,λ_=>by have:=z lc;omega,?_⟩
    .have B:d*(m*128)=128*d*m:=by rw[Nat.mul_comm m 128,<-Nat.mul_assoc,Nat.mul_comm d 128]
     rw[G,B,Nat.add_mul];omega
    .have V:=z lc;rw[Gy (by omega),J];have C:(b.toNat%128+128*d)%128=b.toNat-128:=by omega
     have D:(b.toNat%128+128*d)/128=d:=by omega
     rw[C,D];have E:b8 (128+(b.toNat-128))=b:=by
      have:128+(b.toNat-128)=b.toNat:=by omega
      rw[this];simp[b8]
     rw[E];rfl
    .rw[cB];omega
theorem Wo:∀(k:dw) (first:je) (a m d:dw) (r:fo gU),d<128^(k+1)->(first=θ->0<d)->oQ (k+1) first a m (yj d++r)=ζ (a+d*m,r)
 |k,first,a,m,d,r,hd,hf=>by
  by_cases h:d<128
  .rw[EH h];have e:(b8 d).toNat=d:=by simp[b8];omega
   show oQ (k+1) first a m (b8 d::r)=_
   rw[oQ,e,gY (by cases first<;>simp;have:=hf lc;omega),jb h]
  .rw[Gy h];have e:(b8 (128+d%128)).toNat=128+d%128:=by simp[b8];omega
   show oQ (k+1) first a m (b8 (128+d%128)::(yj (d/128)++r))=_
   rw[oQ,e,gY (by simp),gY (by omega)];match k,hd with
   |0,hd=>omega
   |k+1,hd=>
    rw[Wo k θ _ _ (d/128) r (by rw[cB]at hd;exact Nat.div_lt_of_lt_mul (by omega)) (λ_=>by omega)];have q:(128+d%128)%128=d%128:=by omega
    rw[q];have z:d%128*m+d/128*(m*128)=d*m:=by
     have:d=d%128+d/128*128:=by omega
     calc d%128*m+d/128*(m*128)=(d%128+d/128*128)*m:=by rw[Nat.add_mul,Nat.mul_assoc,Nat.mul_comm 128 m]
      _=d*m:=by rw[<-this]
    rw[<-z,Nat.add_assoc]
theorem Qt {r:fo gU} (h:zw s=ζ (n,r)):s=yj n++r/\n<268435456:=by
 obtain⟨d,B,q,_,z⟩:=VS 4 η 0 1 s n r h;have:n=d:=by omega
 subst this;exact⟨q,z⟩
theorem QL (h:n<268435456) (r:fo gU):zw (yj n++r)=ζ (n,r):=by have:=Wo 3 η 0 1 n r h (λe=>by cases e);simpa[zw]using this
theorem qxe {t r:fo gU} (h:zu s=ζ (t,r)):s=zo t++r/\t.length<268435456:=by
 unfold zu at h;cases hn:zw s with
 |none=>rw[hn]at h;cases h
 |some p=>
  obtain⟨n,q⟩:=p;rw[hn]at h;simp only[aT]at h;split at h;{cases h}
  .rename_i B;simp only[bY,cj]at h;obtain⟨rfl,rfl⟩:=h;obtain⟨d,z⟩:=Qt hn;have hlen:(q.take n).length=n:=by rw[ay];omega
   refine⟨?_,by omega⟩;unfold zo;rw[hlen,d,bZ,bG]
theorem qsa {t:fo gU} (h:t.length<268435456) (r:fo gU):zu (zo t++r)=ζ (t,r):=by unfold zu zo;rw[bZ,QL h];simp
structure Fr where
 kind:dw
 qb:dw
 id:dw
 n:dw
 load:fo gU
def le4 (x:dw):fo gU:=[b8 x,b8 (x/256),b8 (x/65536),b8 (x/16777216)]
def Fr.body (f:Fr):fo gU:=[b8 f.kind,b8 f.qb]++yj f.id++yj f.n++zo f.load
def Fr.bytes (f:Fr):fo gU:=f.body++le4 (chk f.body)
structure Fr.Ok (f:Fr):Prop where
 kind:f.kind<256
 qb:f.qb<256
 id:f.id<268435456
 n:f.n<268435456
 load:f.load.length<268435456
def parse:fo gU->gI Fr
 |k::sh::r=>(zw r).bind λp=>(zw p.2).bind λq=>(zu q.2).bind λt=>if t.2=[]then ζ ⟨k.toNat,sh.toNat,p.1,q.1,t.1⟩else ε
 |_=>ε
def jY (s:fo gU):gI Fr:=if s.length<4 then ε else if s.drop (s.length-4)=le4 (chk (s.take (s.length-4)))then parse (s.take (s.length-4))else ε
theorem q4g (b:gU):b8 b.toNat=b:=by simp[b8]
theorem Ac (h:n<256):(b8 n).toNat=n:=by simp[b8];omega
theorem Qe {f:Fr} (h:parse s=ζ f):s=f.body/\f.Ok:=by
 unfold parse at h;split at h
 .rename_i k sh r;cases h1:zw r with
  |none=>rw[h1]at h;cases h
  |some p=>
   obtain⟨id,E⟩:=p;rw[h1]at h;simp only[aT]at h;cases h2:zw E with
   |none=>rw[h2]at h;cases h
   |some q=>
    obtain⟨n,G⟩:=q;rw[h2]at h;simp only[aT]at h;cases h3:zu G with
    |none=>rw[h3]at h;cases h
    |some t=>obtain⟨t,J⟩:=t;rw[h3]at h;simp only[aT]at h;split at h;{rename_i D;cases h;subst D;obtain⟨d,z⟩:=Qt h1;obtain⟨B,C⟩:=Qt h2;obtain⟨c1,c2⟩:=qxe h3;refine⟨?_,xM k,xM sh,z,C,c2⟩;rw[d,B,c1];simp[Fr.body,q4g]};cases h
 .cases h
theorem qx1 {f:Fr} (h:f.Ok):parse f.body=ζ f:=by
 have e:f.body=b8 f.kind::b8 f.qb::(yj f.id++(yj f.n++(zo f.load++[]))):=by simp[Fr.body]
 rw[e];unfold parse;simp only[QL h.id,QL h.n,qsa h.load,aT,kM];rw[Ac h.kind,Ac h.qb]
theorem qvn {f:Fr} (h:f.Ok):jY f.bytes=ζ f:=by
 have z:f.bytes.length=f.body.length+4:=by simp[Fr.bytes,le4]
 have d:f.bytes.length-4=f.body.length:=by omega
 unfold jY;rw[gY (by omega),d];have q:f.bytes.take f.body.length=f.body:=by simp[Fr.bytes]
 have r:f.bytes.drop f.body.length=le4 (chk f.body):=by simp[Fr.bytes]
 rw[q,r,jb lc,qx1 h]
theorem MO {f:Fr} (h:jY s=ζ f):s=f.bytes/\f.Ok:=by unfold jY at h;split at h;{cases h};split at h;{rename_i r;obtain⟨d,q⟩:=Qe h;refine⟨?_,q⟩;unfold Fr.bytes;rw[<-d,<-r,bG]};cases h
theorem q2i (d:¬s.length<4):jY s=(parse (s.take (s.length-4))).bind λf=>if f.bytes=s then ζ f else ε:=by
 cases hp:parse (s.take (s.length-4))with
 |none=>unfold jY;rw[gY d,hp];split<;>rfl
 |some f=>
  obtain⟨q,r⟩:=Qe hp;simp only[aT];by_cases hb:f.bytes=s;{rw[jb hb,<-hb,qvn r]}
  .rw[gY hb];cases hr:jY s with
   |none=>rfl
   |some g=>exfalso;unfold jY at hr;rw[gY d]at hr;split at hr;{rename_i z;apply hb;unfold Fr.bytes;rw[<-q,<-z,bG]};cases hr
end
section
open Go.RowKit Go.Maps
theorem qsp:4294967295&&&poly=poly:=by decide
theorem qt5 (y:dw) (D:y<2^32):bits .xor .u32 ((y:gJ)/2) (bits .and .u32 (-bits .and .u32 (y:gJ) 1%4294967296) 2197175160)=((Gj y:dw):gJ):=by
 have z:bits .and .u32 (y:gJ) 1=((y%2:dw):gJ):=by have:=u32_and_nat y 1 (by omega) (by decide);rw[show((1:dw):gJ)=1 from lc,nat_mask1]at this;exact this
 rw[z];have B:((y:gJ)/2)=((y/2:dw):gJ):=by omega
 rw[B];unfold Gj;by_cases h:y%2=1
 .rw[h,jb lc];have q:(-((1:dw):gJ)%4294967296)=((4294967295:dw):gJ):=by decide
  rw[q];have d:=u32_and_nat 4294967295 poly (by decide) (by decide);rw[qsp]at d;rw[show(2197175160:gJ)=((poly:dw):gJ)from lc,d];exact u32_xor_nat _ _ (by omega) (by decide)
 .have C:y%2=0:=by omega
  rw[C,gY (by decide)];have q:(-((0:dw):gJ)%4294967296)=((0:dw):gJ):=by decide
  rw[q];have d:=u32_and_nat 0 poly (by decide) (by decide);rw[Nat.zero_and]at d;rw[show(2197175160:gJ)=((poly:dw):gJ)from lc,d];have r:=u32_xor_nat (y/2) 0 (by omega) (by decide);rw[Nat.xor_zero]at r;exact r
theorem jdm (n:dw) (h:n<2^32):4294967295^^^n=4294967295-n:=by apply Nat.eq_of_testBit_eq;intro i;rw[Nat.testBit_xor,show(4294967295:dw)=2^32-1 from lc,Nat.testBit_two_pow_sub_one,show 2^32-1-n=2^32-(n+1) by omega,Nat.testBit_two_pow_sub_succ h];by_cases hi:i<32;{simp[hi]};have:n.testBit i=θ:=Nat.testBit_lt_two_pow (xll h (cG (by decide) (by omega)));simp[hi,this]
theorem QU (n:dw) (h:n<9223372036854775808):IntKind.i64.wrap (n:gJ)=(n:gJ):=by rw[cn];omega
theorem qu1 (a b:dw) (d:a<9223372036854775808) (q:b<9223372036854775808):bits .and .i64 (a:gJ) (b:gJ)=((a&&&b:dw):gJ):=by show IntKind.i64.wrap ((bC 64 (a:gJ)&&&bC 64 (b:gJ)).toNat:gJ)=_;rw[BitVec.toNat_and,co a (by omega),co b (by omega)];exact QU _ (cQ Nat.and_le_left d)
theorem qu2 (a b:dw) (d:a<2^63) (q:b<2^63):bits .xor .i64 (a:gJ) (b:gJ)=((a^^^b:dw):gJ):=by show IntKind.i64.wrap ((bC 64 (a:gJ)^^^bC 64 (b:gJ)).toNat:gJ)=_;rw[BitVec.toNat_xor,co a (by omega),co b (by omega)];exact QU _ (aW d q)
theorem qxn (a b:dw) (d:a<2^63) (q:b<2^63):bits .or .i64 (a:gJ) (b:gJ)=((a|||b:dw):gJ):=by show IntKind.i64.wrap ((bC 64 (a:gJ)|||bC 64 (b:gJ)).toNat:gJ)=_;rw[BitVec.toNat_or,co a (by omega),co b (by omega)];exact QU _ (Nat.or_lt_two_pow d q)
theorem Vz (y:dw) (d:y<2^32):bits .and .i64 (y:gJ) 1=((y%2:dw):gJ):=by have:=qu1 y 1 (by omega) (by decide);rw[nat_mask1]at this;exact this
theorem jbb (b m:dw) (d:b<256):bits .and .i64 (wrap64 ((b:gJ)/2^m)) 1=((b/2^m%2:dw):gJ):=by
 have e:((b:gJ)/2^m)=((b/2^m:dw):gJ):=by rw[Int.natCast_ediv,Int.natCast_pow];rfl
 have z:b/2^m<256:=cQ (Nat.div_le_self _ _) d;rw[e];generalize b/2^m=q at*;have r:wrap64 ((q:dw):gJ)=((q:dw):gJ):=by unfold wrap64;omega
 rw[r];exact Vz _ (by omega)
theorem q6a (y:dw) (d:y<2^32):wrap64 ((y:gJ)/2)=((y/2:dw):gJ):=by
 have e:((y:gJ)/2)=((y/2:dw):gJ):=by omega
 rw[e];unfold wrap64;omega
theorem q1p (y:dw) (d:y<2^32):bits .xor .i64 ((y:dw):gJ) 2197175160=((y^^^poly:dw):gJ):=qu2 y poly (by omega) (by decide)
section
variable {w:ac}
theorem VI (s:bn) (O:s.size<=4611686018427387904):aR prog 117 #[Γ s] w λe w'=>e=ψ (.int .u32 (chk s.data.toList:dw))/\w'=w:=by
 go_enter func117,ntmps117;go_wp2;go_loop [3,4,7] (λx y i=>∃k:dw,k<=s.size/\i=σ υ k/\x=.int .u32 (tH (s.data.toList.take k):dw)) (λ_ _ i=>s.size-(intOf i).toNat);case atStart=>exact⟨0,xzl _,lc,lc⟩
 case round=>
  obtain⟨k,J,rfl,rfl⟩:=hrel;by_cases eZ:k<s.size
  .obtain⟨X,d⟩:∃X,tH (s.data.toList.take k)=X:=⟨_,lc⟩
   have q:X<2^32:=d▸Js _;have C:s[k].toNat<256:=xM _;have G:bits .xor .u32 (X:gJ) ((s[k].toNat:gJ)%4294967296)=((X^^^s[k].toNat:dw):gJ):=by rw[show((s[k].toNat:gJ)%4294967296)=((s[k].toNat:dw):gJ) by omega];exact u32_xor_nat _ _ (by omega) (by omega)
   have r:Hid (tH (s.data.toList.take (k+1))=CV 8 (X^^^s[k].toNat)):=Hd (by rw[aO (by simpa using eZ),Yk,d];rfl);have z:=Hd (aW (n:=32) q (show s[k].toNat<2^32 by omega));rw[d];have E:=Hd d;clear d q C;go_wp2;generalize (X^^^s[k].toNat)=Y at*;go_loop [3,16,18,19,20,21,22,23,24,25,17] (λx j _ _ _ _ _ _ _ _ _=>∃m:dw,m<=8/\j=σ υ m/\x=.int .u32 (CV m Y:dw)) (λ_ j _ _ _ _ _ _ _ _ _=>8-(intOf j).toNat);case atStart=>exact⟨0,xzl _,lc,lc⟩
   case round=>
    obtain⟨m,M,rfl,rfl⟩:=hrel;by_cases hm8:m<8
    .go_wp2;go_round;case rel=>
      refine⟨m+1,by omega,by go_num,?_⟩;rw[qt5 _ (QX z.o m)];rfl
     case measure=>simp[intOf];omega
    .obtain rfl:m=8:=by omega
     go_wp2;go_round;case rel=>exact⟨k+1,by omega,by go_num,by rw[r.o]⟩
     case measure=>simp[intOf];omega
  .obtain rfl:k=s.size:=by omega
   go_wp2;go_ret;refine⟨?_,lc⟩;have D:s.data.toList.take s.size=s.data.toList:=aX (by simp);have B:bits .xor .u32 IntKind.u32.max (tH s.data.toList:dw)=((chk s.data.toList:dw):gJ):=by have:=u32_xor_nat 4294967295 (tH s.data.toList) (by decide) (Js _);rw[jdm _ (Js _)]at this;exact this
   rw[D,B];rfl
theorem q74 (s:bn) (hs:s.size<=4611686018427387904):aR prog 126 #[Γ s] w λe w'=>e=ψ (σ υ (chk s.data.toList:dw))/\w'=w:=by
 go_enter func126,ntmps126;go_wp2;go_loop [3,4,5,6,7] (λx i _ _ _=>∃k:dw,k<=s.size/\i=σ υ k/\x=σ υ (tH (s.data.toList.take k):dw)) (λ_ i _ _ _=>s.size-(intOf i).toNat);case atStart=>exact⟨0,xzl _,lc,lc⟩
 case round=>
  obtain⟨k,hk,rfl,rfl⟩:=hrel;by_cases eZ:k<s.size
  .obtain⟨X,d⟩:∃X,tH (s.data.toList.take k)=X:=⟨_,lc⟩
   have D:X<2^32:=d▸Js _;have V:s[k].toNat<256:=xM _;have G:Hid (tH (s.data.toList.take (k+1))=wJ s[k].toNat 8 X):=Hd (by rw[aO (by simpa using eZ),Yk,d,qr0];rfl);have J:=Hd D;rw[d];have HX:=Hd d;clear d D V;go_wp2;go_loop [3,5,6,7] (λx j _ _=>∃m:dw,m<=8/\j=σ υ m/\x=σ υ (wJ s[k].toNat m X:dw)) (λ_ j _ _=>8-(intOf j).toNat);case atStart=>exact⟨0,xzl _,lc,lc⟩
   case round=>
    obtain⟨m,hm,rfl,rfl⟩:=hrel;by_cases hm8:m<8
    .have q:=Yb (b:=s[k].toNat) J.o m;have eA:=jbb s[k].toNat m (xM _);have eB:=Vz _ q;have M:=q6a _ q;have O:=q1p (wJ s[k].toNat m X/2) (by omega);have z:wJ s[k].toNat (m+1) X=Er (wJ s[k].toNat m X) (s[k].toNat/2^m%2):=lc;have C:=Hd z;generalize wJ s[k].toNat m X=Y at*;generalize s[k].toNat/2^m%2=B at*;clear z;by_cases uS:B=Y%2
     .have T:(B !=Y%2)=θ:=by simpa using uS
      have U:(((B:dw):gJ) !=((Y%2:dw):gJ))=θ:=by simp[uS]
      have r:=Hd uS;clear uS q;go_wp2;go_round;case rel=>exact⟨m+1,by omega,by go_num,by rw[C.o];unfold Er;rw[gY (λe=>e r.o)];first|rw[M]|(unfold wrap64;congr 1;omega)⟩
      case measure=>simp[intOf];omega
     .have T:(B !=Y%2)=η:=by simpa using uS
      have U:(((B:dw):gJ) !=((Y%2:dw):gJ))=η:=by simp;omega
      have r:=Hd uS;clear uS q;go_wp2;go_round;case rel=>exact⟨m+1,by omega,by go_num,by rw[C.o];unfold Er;rw[jb r.o,<-O,show((Y:gJ)/2)=((Y/2:dw):gJ) by omega]⟩
      case measure=>simp[intOf];omega
    .obtain rfl:m=8:=by omega
     go_wp2;go_round;case rel=>exact⟨k+1,by omega,by go_num,by rw[G.o]⟩
     case measure=>simp[intOf];omega
  .obtain rfl:k=s.size:=by omega
   have hl:s.data.toList.take s.size=s.data.toList:=aX (by simp);have hf:=Js s.data.toList;have E:(4294967295:gJ)-(tH s.data.toList:dw)=((chk s.data.toList:dw):gJ):=by unfold chk;omega
   rw[hl];have H1:=Hd E;have z:(0:gJ)<=(tH s.data.toList:dw):=by omega
   clear E;generalize tH s.data.toList=Z at*;go_wp2;go_ret;exact⟨by rw[<-H1.o];rfl,lc⟩
end
theorem vo:∀(k n:dw),n<128^(k+1)->(yj n).length<=k+1
 |0,n,h=>by rw[EH (by omega)];simp
 |k+1,n,h=>by by_cases hs:n<128;{rw[EH hs];simp};rw[Gy hs,cu];have:=vo k (n/128) (Nat.div_lt_of_lt_mul (by rw[cB]at h;omega));omega
theorem jm1:∀x,x<256->x|||128=128+x%128:=by decide
theorem q7m (m:dw):bits .or .u8 ((m:gJ)%256) 128=(((b8 (128+m%128)).toNat:dw):gJ):=by
 have e:((m:gJ)%256)=((m%256:dw):gJ):=by omega
 rw[e];have:=u8_or_nat (m%256) 128 (by omega) (by decide);rw[show((128:dw):gJ)=128 from lc]at this;rw[this,jm1 _ (by omega),Ac (by omega)];omega
def bv (b:gU):aa:=σ Ξ (b.toNat:gJ)
theorem q4n:∃i,prog.info? 5=ζ i/\i.zero=ζ (σ Ξ 0)/\i.size=1/\i.bytes=1:=by
 have h:(prog.info? 5).map (λi=>(i.zero,i.size,i.bytes))=ζ (ζ (σ Ξ 0),1,1):=by kernel_rfl
 obtain⟨i,r,d⟩:=aY.1 h;injection d with d q;injection q with q z;exact⟨i,r,d,q,z⟩
theorem q05 {base:dw} {v:aa} (h:w.ownsRow base 5 1 v l.length (l.map bv)):(convert 139 9 v).run prog w=.ok (Γ ⟨l.toArray⟩) w:=by
 rcases h.2 with⟨rfl,q⟩|⟨g,cap,cur,rfl,_⟩;{have:l=[]:=cx.1 q;subst this;show Sem.run prog (convert 139 9 (Δ ε 0 0)) w=.ok (Γ ⟨#[]⟩) w;kernel_rfl}
 .exact aG (P:=prog) _ 139 9 5 ⟨g,0,ε⟩ cap l underlying139 underlying5 underlying9 (λj d=>by
   have:=h.cells lc j (bv l[j]) (by simp[d])
   rwa [aj]at this|-)
structure Cr (N:dw) (w:ac) (l:fo gU) (m:dw) (v:aa) (wr:ac):Prop where
 le:m<=N
 eq:yj N=l++yj m
 own:wr.ownsRow w.heap.size 5 1 v l.length (l.map bv)
 below:aC w.heap.size w wr
theorem Cr.len {wr:ac} {v:aa} (h:Cr N w l m v wr) (d:N<9223372036854775808):l.length<=9:=by
 have:=vo 8 N (by simpa using d);rw[h.eq,aB]at this;have:0<(yj m).length:=by by_cases hs:m<128;{rw[EH hs];simp};rw[Gy hs];simp
 omega
theorem jd3 (w:ac) (a:aa) (ty:ao):∀(j:dw) (u:aa),[a][j]?=ζ u->(w.alloc (ω #[a] ty)).cell? ((⟨w.heap.size,0,ε⟩:Addr).add j)=ζ u:=λj u d=>by
 rw[aj,az];match j,d with
 |0,d=>simp at d;subst d;go_simp
theorem jq {base size:dw} {ty:ao} {v:aa} (h:w.ownsRow base ty size v n xs):∃q cp,v=.slice q n cp:=by rcases h.2 with⟨rfl,d⟩|⟨g,cap,cur,rfl,_⟩;{exact⟨ε,0,by rw[d]⟩};exact⟨_,_,lc⟩
theorem Cr.last {wr:ac} {v d:aa} {o:Obj} (h:Cr N w l m v wr) (B:m<128) (C:w2.ownsRow w.heap.size 5 1 d (l.length+1) (l.map bv++[σ Ξ (m:gJ)])) (z:(wr.alloc o).grownBy w2 v.ownBlock):
  (convert 139 9 d).run prog w2=.ok (Γ ⟨(yj N).toArray⟩) w2/\aC w.heap.size w w2:=by
 refine⟨?_,(h.below.alloc h.below.size o).grown z (by have:=h.below.size;simp;omega) λb r=>(h.own.lt b r).1⟩;have e:yj N=l++[b8 m]:=by rw[h.eq,EH B]
 have q:bv (b8 m)=σ Ξ (m:gJ):=by unfold bv;rw[Ac (by omega)]
 rw[e];refine q05 (base:=w.heap.size) ?_;rw[aB,List.map_append,dG,dO,q];exact C
theorem Cr.more {wr:ac} {v d:aa} {o:Obj} (h:Cr N w l m v wr) (z:¬m<128) (B:w2.ownsRow w.heap.size 5 1 d (l.length+1) (l.map bv++[σ Ξ (((b8 (128+m%128)).toNat:dw):gJ)])) (r:(wr.alloc o).grownBy w2 v.ownBlock):
  Cr N w (l++[b8 (128+m%128)]) (m/128) d w2:=by
 refine⟨xlt (Nat.div_le_self _ _) h.le,?_,?_,(h.below.alloc h.below.size o).grown r (by have:=h.below.size;simp;omega) λb q=>(h.own.lt b q).1⟩;{rw[h.eq,Gy z];simp};rw[aB,List.map_append];exact B
section
variable {w:ac}
theorem Cy (N:dw) (hN:N<9223372036854775808):aR prog 113 #[σ υ N] w λe w'=>e=ψ (Γ ⟨(yj N).toArray⟩)/\aC w.heap.size w w':=by
 obtain⟨pi,U,V,X,Y⟩:=q4n;have d:=Hd (aF U (aF V (aF X Y)));have J:=Hd hN;clear U V X Y;go_enter func113,ntmps113;go_wp2;go_loopw [0,3,4,5,6,7,8,9,10,11,12,13] (λi v _ _ _ _ _ _ _ _ _ _ wr=>∃(l:fo gU) (m:dw) (D:gI Addr) (cp:dw),i=σ υ m/\v=.slice D l.length cp/\Hid (Cr N w l m (.slice D l.length cp) wr)) (λi _ _ _ _ _ _ _ _ _ _ _ _=>(intOf i).toNat);case atStart=>exact⟨[],N,ε,0,lc,lc,Hd ⟨jg _,lc,aP _ _ _ _,qy _ _⟩⟩
 case round=>
  obtain⟨l,m,D,cp,rfl,rfl,q⟩:=hrel;have hlen:=q.len J.o;have Am:m<=9223372036854775807:=by have:=q.le;have:=J.o;omega
  by_cases eZ:127<m
  .have eA:=q7m m;have fC:=q.below.size;go_wp2_with (at_builtin;(refine ce _ lc (.tmp 8) (.tmp 12) 139 lc w.heap.size 5 pi _ 1 1 underlying139 d.1 d.2.1 d.2.2.1 d.2.2.2 lc (by decide) (.slice D l.length cp) l.length (l.map bv) lc (q.own.alloc _) ⟨wr.heap.size,0,ε⟩ 1 1 [σ Ξ (((b8 (128+m%128)).toNat:dw):gJ)] lc lc (jd3 wr _ _) (by intro u C;simp at C;subst C;rfl) (by unfold bm;omega) (by omega) (by simp;omega) ?_;intro v2 w2 r B _;obtain⟨O,T,z⟩:=jq r;have G:=Hd (q.more (by omega) r B);rw[z]at G;rw[z];clear r B z))
   go_roundw;case rel=>exact⟨l++[b8 (128+m%128)],m/128,O,T,by simp,by simp,by simpa using G⟩
   case measure=>simp[intOf];omega
  .have fC:=q.below.size;go_wp2_with (at_builtin;(refine ce _ lc (.tmp 14) (.tmp 17) 139 lc w.heap.size 5 pi _ 1 1 underlying139 d.1 d.2.1 d.2.2.1 d.2.2.2 lc (by decide) (.slice D l.length cp) l.length (l.map bv) lc (q.own.alloc _) ⟨wr.heap.size,0,ε⟩ 1 1 [σ Ξ (m:gJ)] lc lc (jd3 wr _ _) (by intro u C;simp at C;subst C;rfl) (by unfold bm;omega) (by omega) (by simp;omega) ?_;intro v2 w2 r B _;obtain⟨O,T,z⟩:=jq r;obtain⟨E,M⟩:=q.last (by omega) r B;have ig:=Hd M;rw[z]at E;rw[z];clear r B z M))
   go_ret;exact⟨lc,ig.o⟩
theorem YH (s:bn) (C:s.size<=140737488355328):aR prog 114 #[Γ s] w λe w'=>e=ψ (Γ ⟨(zo s.data.toList).toArray⟩)/\aC w.heap.size w w':=by
 have q:(⟨(zo s.data.toList).toArray⟩:bn)=(⟨(yj s.size).toArray⟩:bn)++s:=by apply ByteArray.ext;rw[bH];unfold zo;apply cT;simp
 have B:(⟨(yj s.size).toArray⟩:bn).size<=9:=by have:=vo 8 s.size (by omega);show(yj s.size).toArray.size<=9;simpa using this
 rw[q];have d:=Cy (w:=w) s.size (by omega);have d:=Hd d;clear q;generalize (⟨(yj s.size).toArray⟩:bn)=nb at*;go_enter func114,ntmps114;go_wp2_with (go_at_call 113;refine d.mono ?_;rintro e w1 ⟨rfl,r⟩;have z:=Hd r;clear r)
 go_ret;exact⟨lc,z.o⟩
end
theorem jd5 (W:ac) (g:dw) (x:gJ) (b:gU) (q:x=b.toNat) (h:W.cell? ⟨g,0,ε⟩=ζ (σ Ξ x)):(convert 139 9 (Δ (ζ ⟨g,0,ε⟩) 1 1)).run prog W=.ok (Γ ⟨#[b]⟩) W:=
 aG (P:=prog) _ 139 9 5 ⟨g,0,ε⟩ 1 [b] underlying139 underlying5 underlying9 (λj d=>by
  have:j=0:=by simpa using d
  subst this
  rw[aj,h,q];rfl)
theorem jj4 {W:ac} (d:aC W.heap.size W w1):(∀b o,b<W.heap.size->w1.cell? ⟨b,o,ε⟩=W.cell? ⟨b,o,ε⟩)/\(∀b o,b<W.heap.size->w1.frozen? ⟨b,o,ε⟩=W.frozen? ⟨b,o,ε⟩):=
 ⟨λb o h=>d.cell (p:=⟨b,o,ε⟩) h,λb o h=>d.frozen (p:=⟨b,o,ε⟩) h⟩
def Mq (N:dw) (w:ac) (e:Ending) (w':ac):Prop:=e=ψ (Γ ⟨(yj N).toArray⟩)/\aC w.heap.size w w'
theorem Gh:∀(N:dw) (w:ac),N<9223372036854775808->aR prog 97 #[σ υ N] w (Mq N w):=by
 intro N;induction N using Nat.strongRecOn with
 |_ N ih=>
  intro w V;by_cases h:N<128
  .have J:=jd5 (w.alloc (ω #[σ Ξ (N:gJ)] 5)) w.heap.size (N:gJ) (b8 N) (by rw[Ac (by omega)]) (by go_simp);have d:(⟨(yj N).toArray⟩:bn)=⟨#[b8 N]⟩:=by rw[EH h]
   unfold Mq;rw[d];clear d;go_enter func97,ntmps97;go_wp2;go_ret;exact⟨lc,(qy _ _).alloc (jg _) _⟩
  .obtain⟨M,C⟩:∃M,N/128=M:=⟨_,lc⟩
   obtain⟨r,D⟩:∃r,N%128=r:=⟨_,lc⟩
   have um:r<128:=by omega
   have B:=Hd (λw=>ih M (by omega) w (by omega));have E:(b8 (128+r)).toNat=128+r:=Ac (by omega);have J:∀(W:ac) (g:dw),W.cell? ⟨g,0,ε⟩=ζ (σ Ξ (128+(r:gJ)))->(convert 139 9 (Δ (ζ ⟨g,0,ε⟩) 1 1)).run prog W=.ok (Γ ⟨#[b8 (128+r)]⟩) W:=λW g G=>jd5 W g _ (b8 (128+r)) (by rw[E];omega) G;have d:(⟨(yj N).toArray⟩:bn)=(⟨#[b8 (128+r)]⟩:bn)++(⟨(yj M).toArray⟩:bn):=by rw[Gy h,C,D];apply ByteArray.ext;rw[bH];apply cT;simp
   have Y:(⟨(yj M).toArray⟩:bn).size<=9:=by have:=vo 8 M (by omega);show(yj M).toArray.size<=9;simpa using this
   have O:(⟨#[b8 (128+r)]⟩:bn).size=1:=lc;unfold Mq at B|-;rw[d];have ht:(N:gJ).tmod 128=(r:gJ):=by rw[Int.tmod_eq_emod_of_nonneg (by omega)];omega
   have hw:IntKind.i64.wrap (128+(r:gJ))=128+(r:gJ):=by rw[cn];omega
   have T:IntKind.u8.wrap (128+(r:gJ))=128+(r:gJ):=by rw[bJ];omega
   have X:IntKind.i64.wrap ((N:gJ)/128)=(M:gJ):=by rw[cn];omega
   have U:ν ((N:gJ)<128)=θ:=xdf (by omega);clear d E C D ih h;generalize (⟨(yj M).toArray⟩:bn)=nb at*;generalize (⟨#[b8 (128+r)]⟩:bn)=n1 at*;go_enter func97,ntmps97;go_wp2;go_region_with (first|(go_at_call 97;(refine(B.o _).mono ?_;rintro e w2 ⟨rfl,q⟩;obtain⟨pR,yS⟩:=jj4 q;have z:=Hd q;clear q)))
   all_goals
    go_wp2;go_ret;refine⟨lc,?_⟩;first
     |exact((qy _ w).alloc (jg _) _).drew.trans (z.mono (by simp))
     |exact((qy w.heap.size w).drew.trans (z.mono (jg _))).alloc (by have:=z.size;simpa using this) _
theorem IX (s:bn) (C:s.size<=140737488355328):aR prog 98 #[Γ s] w λe w'=>e=ψ (Γ ⟨(zo s.data.toList).toArray⟩)/\aC w.heap.size w w':=by
 have q:(⟨(zo s.data.toList).toArray⟩:bn)=(⟨(yj s.size).toArray⟩:bn)++s:=by apply ByteArray.ext;rw[bH];unfold zo;apply cT;simp
 have B:(⟨(yj s.size).toArray⟩:bn).size<=9:=by have:=vo 8 s.size (by omega);show(yj s.size).toArray.size<=9;simpa using this
 rw[q];have d:=Gh s.size w (by omega);unfold Mq at d;have d:=Hd d;clear q;generalize (⟨(yj s.size).toArray⟩:bn)=nb at*;go_enter func98,ntmps98;go_wp2_with (go_at_call 97;refine d.mono ?_;rintro e w1 ⟨rfl,r⟩;have z:=Hd r;clear r)
 go_ret;exact⟨lc,z.o⟩
end
end Go.Proofs.YtkpekiajdlolnabGreat
namespace Go.Proofs.YtkpekiajdlolnabGreat.Ph
open Go.Conc Go.ConcN Go.RowKit Go.Maps Go.Conc.Lib Go Sim
section
variable {P:dP} {ops:gF Oper} {n:dw} {x0:dw->aa} {w0:ac} {KN:dw->aa->ac->Prop}
def GN (ops:gF Oper) (n:dw):je:=
 (au ops.size).all λj=>match ops[j]? with
  |some o=>o.guard.isNone&&(match o.dst with|some d=>ν (d<n)|none=>θ)&&(o.after.all λe=>ν (e.on<j))&&((au ops.size).all λi=>i==j||(match ops[i]? with|some p=>!(p.dst==o.dst)|none=>η))
  |none=>θ
structure RV (ops:gF Oper) (n:dw) (x0:dw->aa) (w0:ac) (KN:dw->aa->ac->Prop) (listed:gF je) (a:Act) (w:ac):Prop where
 size:listed.size=ops.size
 lay:∃x,a=⟨lay n x,[]⟩/\(∀s,(∀(j:dw) o,ops[j]?=ζ o->o.dst≠ζ s)->x s=x0 s)/\∀(j:dw) o d,listed.getD j θ=η->ops[j]?=ζ o->o.dst=ζ d->KN j (x d) w
 below:aC w0.heap.size w0 w
theorem Vw (h:GN ops n=η) (B:ops[j]?=ζ o):o.guard=ε/\(∃d,o.dst=ζ d/\d<n)/\(∀e∈o.after,e.on<j)/\∀i p,ops[i]?=ζ p->i≠j->p.dst≠o.dst:=by
 unfold GN at h;rw[bk]at h;have O:j<ops.size:=(j5 B).1;have:=h j (aJ.2 O);rw[B]at this;simp only[bK,Option.isNone_iff_eq_none]at this;obtain⟨⟨⟨E,q⟩,G⟩,z⟩:=this;refine⟨E,?_,λe J=>?_,λi p C D r=>?_⟩
 .cases r:o.dst with
  |none=>rw[r]at q;cases q
  |some d=>rw[r]at q;exact⟨d,lc,iO q⟩
 .exact iO ((Array.all_eq_true_iff_forall_mem.1 G) e J)
 .rw[bk]at z;have M:=(j5 C).1;have:=z i (aJ.2 M);rw[C]at this;simp[D,r]at this
def left (m:dw) (listed:gF je):dw:=(au m).countP λj=>!listed.getD j η
theorem MC {listed:gF je} (d:i<m) (r:listed.size=m) (h:listed.getD i η=θ):left m (listed.setIfInBounds i η)+1=left m listed:=by
 refine QJ _ _ i (λj q=>?_) (by simpa using h) ?_ _ List.nodup_range (aJ.2 d);{rw[getD_set_ne η (Ne.symm q)]}
 .have:i<listed.size:=by omega
  simp[this]
theorem Qh {listed:gF je} (d:j<m) (h:listed.getD j η=θ):0<left m listed:=
 List.countP_pos_iff.2 ⟨j,aJ.2 d,by simp[h]⟩
theorem Je (h:GN ops n=η) {listed:gF je} (C:listed.size=ops.size) (B:bD .any ops listed=[]):∀j,j<ops.size->listed.getD j θ=η:=by
 intro j;induction j using Nat.strongRecOn with
 |_ j ih=>
  intro z;cases hv:listed.getD j θ with
  |true=>rfl
  |false=>
   exfalso;obtain⟨o,d⟩:∃o,ops[j]?=ζ o:=⟨_,Array.getElem?_eq_getElem z⟩
   have q:j<listed.size:=by omega
   have:j∈bD .any ops listed:=dK.2 ⟨by simp[q]at hv|-;exact hv,o,d,λe r _=>by
    have:=(Vw h d).2.2.1 e r
    exact ih e.on this (by omega)⟩
   rw[B]at this;cases this
theorem Yz {id:dw} (hm:P.follows .mixedOrders=η) (hn:GN ops n=η) (ha:∃x,a=⟨lay n x,[]⟩/\∀s,x s=x0 s) (hw:w0=w.drew)
  (hk:∀j v w w',aC w.heap.size w w'->KN j v w->KN j v w')
  (step:∀(j:dw) o d x w,ops[j]?=ζ o->o.dst=ζ d->(∀s,(∀(j:dw) o,ops[j]?=ζ o->o.dst≠ζ s)->x s=x0 s)->(∀(i:dw) p e,ops[i]?=ζ p->p.dst=ζ e->(∃J∈o.after,J.on=i/\dh .any J=η)->KN i (x e) w)->aC w0.heap.size w0 w->
   o.wp P ⟨lay n x,[]⟩ w (λV w'=>∃v,V=⟨lay n (upd x d v),[]⟩/\KN j v w'/\aC w.heap.size w w') Q)
  (done:∀x w,(∀s,(∀(j:dw) o,ops[j]?=ζ o->o.dst≠ζ s)->x s=x0 s)->(∀(j:dw) o d,ops[j]?=ζ o->o.dst=ζ d->KN j (x d) w)->aC w0.heap.size w0 w->Q .normal ⟨lay n x,[]⟩ w):
  (Code.region id ops η).wp P Q a w:=by
 refine wp_region_any hm ?_;have main:∀fuel listed a w,left ops.size listed<=fuel->RV ops n x0 w0 KN listed a w->wpAny P .any ops Q fuel listed a w:=by
  intro fuel;have fin:∀listed a w,RV ops n x0 w0 KN listed a w->bD .any ops listed=[]->Q .normal a w:=by rintro listed a w ⟨E,⟨x,rfl,h2,T⟩,h4⟩ M;exact done x w h2 (λj o d q z=>T j o d (Je hn E M j (j5 q).1) q z) h4
  induction fuel with
  |zero=>
   intro listed a w hl D;have M:bD .any ops listed=[]:=by
    cases hq:bD .any ops listed with
    |nil=>rfl
    |cons j r=>
     exfalso;have G:j∈bD .any ops listed:=by rw[hq];exact .head _
     obtain⟨E,o,q,_⟩:=dK.1 G;have:=Qh (j5 q).1 E;omega
   exact⟨M,fin listed a w D M⟩
  |succ fuel ih=>intro listed a w hl D;refine⟨fin listed a w D,λj G=>?_⟩;obtain⟨E,o,q,T⟩:=dK.1 G;obtain⟨hg,⟨d,z,nI⟩,ji,zH⟩:=Vw hn q;obtain⟨X,⟨x,rfl,O,jH⟩,U⟩:=D;unfold wpOp;rw[q];simp only[ah,hg,kM];refine ι (Oper.wp_mono ?_ (step j o d x w q z O (λi p e C B ⟨J,SY,h5,h6⟩=>jH i p e (by rw[<-h5];exact T J SY h6) C B) U));rintro V w' ⟨v,rfl,D,Y⟩;have Fe:j<ops.size:=(j5 q).1;refine ih _ _ _ (by have:=MC Fe X E;omega) ⟨by simpa using X,⟨_,lc,λs hs=>?_,λi p e hi C B=>?_⟩,U.trans (Y.mono U.size)⟩;{unfold upd;rw[gY λe=>hs j o q (by rw[z,e])];exact O s hs};by_cases e1:i=j;{subst e1;rw[q]at C;cases C;rw[z]at B;cases B;unfold upd;rw[jb lc];exact D};have fG:e≠d:=λe2=>zH i p C e1 (by rw[B,z,e2]);unfold upd;rw[gY fG];rw[getD_set_ne θ (Ne.symm e1)]at hi;exact hk i _ w w' Y (jH i p e hi C B)
 obtain⟨x,rfl,O⟩:=ha;subst hw;refine main _ _ _ _ (xlt (List.countP_le_length) (by simp)) ⟨by simp,⟨x,lc,λs _=>O s,λj o d G q z=>?_⟩,qy _ _⟩;have:j<ops.size:=(j5 q).1;simp[this]at G
theorem qo {v:aa} {next:Act->ac->Prop} (h:(ae a.eval o).run P w=.ok (.value v) w') (k:next (a.put o.dst v) w'):o.wp P a w next Q:=by unfold Oper.wp;rw[h];exact k
end
theorem yB {s:dw} (h:(ops.toList.all λo=>!(o.dst==ζ s))=η):∀(j:dw) o,ops[j]?=ζ o->o.dst≠ζ s:=λj o d e=>by rw[bk]at h;have:=h o (by rw[<-am]at d;exact bi d);rw[e]at this;simp at this
theorem qp (h:(o.after.toList.any λe=>e.on==i&&dh .any e)=η):∃q∈o.after,q.on=i/\dh .any q=η:=by rw[dl]at h;obtain⟨e,r,d⟩:=h;simp only[bK,beq_iff_eq]at d;exact⟨e,by simpa using r,d.1,d.2⟩
theorem jd6 (W:ac) (g:dw) (x y:gJ) (a b:gU) (z:x=a.toNat) (B:y=b.toNat) (q:W.cell? ⟨g,0,ε⟩=ζ (σ Ξ x)) (r:W.cell? ⟨g,1,ε⟩=ζ (σ Ξ y)):(convert 139 9 (Δ (ζ ⟨g,0,ε⟩) 2 2)).run prog W=.ok (Γ ⟨#[a,b]⟩) W:=
 aG (P:=prog) _ 139 9 5 ⟨g,0,ε⟩ 2 [a,b] underlying139 underlying5 underlying9 (λj d=>by
  rw[aj,az];have d:j<2:=d;match j,d with
  |0,_=>rw[q,z];rfl
  |1,_=>rw[r,B];rfl)
theorem jj9 (W:ac) (g:dw) (x0 r z B:gJ) (a b c d:gU) (C:x0=a.toNat) (D:r=b.toNat) (E:z=c.toNat) (G:B=d.toNat) (J:W.cell? ⟨g,0,ε⟩=ζ (σ Ξ x0)) (M:W.cell? ⟨g,1,ε⟩=ζ (σ Ξ r)) (O:W.cell? ⟨g,2,ε⟩=ζ (σ Ξ z)) (T:W.cell? ⟨g,3,ε⟩=ζ (σ Ξ B)):
  (convert 139 9 (Δ (ζ ⟨g,0,ε⟩) 4 4)).run prog W=.ok (Γ ⟨#[a,b,c,d]⟩) W:=
 aG (P:=prog) _ 139 9 5 ⟨g,0,ε⟩ 4 [a,b,c,d] underlying139 underlying5 underlying9 (λj q=>by
  rw[aj,az];have q:j<4:=q;match j,q with
  |0,_=>rw[J,C];rfl
  |1,_=>rw[M,D];rfl
  |2,_=>rw[O,E];rfl
  |3,_=>rw[T,G];rfl)
theorem Ez {args:gF aa} {R:Ending->ac->Prop} {next:Act->ac->Prop} (h:(ae a.eval o).run prog w=.ok (.enter f args) w) (d:aR prog f args w R) (k:∀e w',R e w'->∃v,e=ψ v/\next (a.put o.dst v) w'):o.wp prog a w next Q:=by unfold Oper.wp;rw[h];exact d.mono λe w' q=>by obtain⟨v,rfl,h⟩:=k e w' q;exact h
theorem Ab {q:bV} {s t:bn} (h:o.op=.binOp .add 9 p q 9) (r:e p=Γ s) (z:e q=Γ t) (B:s.size+t.size<=9223372036854775807):(ae e o).run prog w=.ok (.value (Γ (s++t))) w:=by
 have d:(9223372036854775807<s.size+t.size)=kw:=by simp;omega
 unfold ae;simp[go_sem,h,r,z,d]
theorem IZ (f:dw) (z:f<5) (h:o.op=.fieldAddr 133 p f) (d:e p=ξ (ζ ⟨g,0,ε⟩)):(ae e o).run prog w=.ok (.value (ξ (ζ ⟨g,f,ε⟩))) w:=by
 have q:=underlying133;have r:f=0\/f=1\/f=2\/f=3\/f=4:=by omega
 unfold ae;rcases r with rfl|rfl|rfl|rfl|rfl<;>simp[go_sem,h,d,q]
theorem I4 (f:dw) (z:f<5) (h:o.op=.fieldAddr 182 p f) (d:e p=ξ (ζ ⟨g,0,ε⟩)):(ae e o).run prog w=.ok (.value (ξ (ζ ⟨g,f,ε⟩))) w:=by
 have q:=underlying182;have r:f=0\/f=1\/f=2\/f=3\/f=4:=by omega
 unfold ae;rcases r with rfl|rfl|rfl|rfl|rfl<;>simp[go_sem,h,d,q]
theorem zq {a:Addr} {ty:ao} {v:aa} (h:o.op=.load ty p) (r:e p=ξ (ζ a)) (d:(isAgg ty).run prog w=.ok θ w) (q:w.cell? a=ζ v):(ae e o).run prog w=.ok (.value v) w:=by unfold ae;simp[go_sem,h,r,d,q]
theorem QG {m:gJ} (h:o.op=.convert 3 5 p) (q:e p=σ υ m):(ae e o).run prog w=.ok (.value (σ Ξ (IntKind.u8.wrap m))) w:=by have r:=underlying3;have d:=underlying5;unfold ae;simp[go_sem,h,q,r,d]
theorem Wh {a b:ao} {v:aa} (h:o.op=.convert a b p) (q:e p=v) (d:(convert a b v).run prog w=.ok v' w):(ae e o).run prog w=.ok (.value v') w:=by unfold ae;simp[go_sem,h,q,d]
theorem X0 {q:bV} {x y:gJ} (h:o.op=.buildSlice 139 2 #[(0,p),(1,q)]) (d:e p=σ Ξ x) (r:e q=σ Ξ y):(ae e o).run prog w=.ok (.value (Δ (ζ ⟨w.heap.size,0,ε⟩) 2 2)) (w.alloc (ω #[σ Ξ x,σ Ξ y] 5)):=by have z:=underlying139;unfold ae;simp[go_sem,h,d,r,z]
theorem GK {ty:ao} {v:aa} {fn:Func} (h:o.op=.call {callee:=.value (.func f),args:=#[p],argTypes:=#[ty]}) (r:a.eval p=v) (q:prog.funcs[f]?=ζ fn) (z:(fn.name== "runtime.NumGoroutine")=θ) (d:fn.body.isNone=θ):(ae a.eval o).run prog w=.ok (.enter f #[v]) w:=by rw[run_call_body h q z d];simp[r]
theorem Ma {v:aa} (h:o.op=.assign p) (d:e p=v):(ae e o).run prog w=.ok (.value v) w:=by unfold ae;simp[go_sem,h,d]
theorem jeo (w:ac) (x y:aa) (t:ao):(w.alloc (ω #[x,y] t)).cell? ⟨w.heap.size,0,ε⟩=ζ x:=by rw[show(⟨w.heap.size,0,ε⟩:Addr)=Addr.mk w.heap.size 0 ε from lc];simp[World.cell?_alloc_new]
theorem jep (w:ac) (x y:aa) (t:ao):(w.alloc (ω #[x,y] t)).cell? ⟨w.heap.size,1,ε⟩=ζ y:=by simp[World.cell?_alloc_new]
theorem qd {d:dw} {x:dw->aa} {v:aa} (q:o.dst=ζ d):(bI (lay n x) []).put o.dst v=⟨lay n (upd x d v),[]⟩:=by rw[q];show bI ((lay n x).setIfInBounds d v) []=_;rw[wI]
noncomputable def pb1:gF Oper:=match Tryz.f75.body with|some (.seq _ (.seq a _))=>rg a|_=>#[]
noncomputable def pbo (k:dw):Oper:=pb1.getD k ⟨ε,.alloc 0,0, "",#[],ε⟩
theorem jb4:GN pb1 41=η:=by kernel_rfl
section
variable {bx id n kd sh:dw} {ld s0 s1 s2 s3:bn}
def Kpb (bx kd sh id n:dw) (ld s0 s1 s2 s3:bn):dw->aa->ac->Prop
 |0,v,_=>v=ξ (ζ ⟨bx,0,ε⟩)
 |1,v,_=>v=σ Ξ kd
 |2,v,_=>v=ξ (ζ ⟨bx,1,ε⟩)
 |3,v,_=>v=σ υ sh
 |4,v,_=>v=σ Ξ sh
 |5,v,w=>∃g,v=Δ (ζ ⟨g,0,ε⟩) 2 2/\w.cell? ⟨g,0,ε⟩=ζ (σ Ξ kd)/\w.cell? ⟨g,1,ε⟩=ζ (σ Ξ sh)
 |6,v,_=>v=Γ s0
 |7,v,_=>v=ξ (ζ ⟨bx,2,ε⟩)
 |8,v,_=>v=σ υ id
 |9,v,_=>v=Γ s1
 |10,v,_=>v=Γ (s0++s1)
 |11,v,_=>v=ξ (ζ ⟨bx,3,ε⟩)
 |12,v,_=>v=σ υ n
 |13,v,_=>v=Γ s2
 |14,v,_=>v=Γ (s0++s1++s2)
 |15,v,_=>v=ξ (ζ ⟨bx,4,ε⟩)
 |16,v,_=>v=Γ ld
 |17,v,_=>v=Γ s3
 |18,v,_=>v=Γ (s0++s1++s2++s3)
 |19,v,_=>v=Γ (s0++s1++s2++s3)
 |_,_,_=>True
theorem q0r (j:dw) (v:aa) (w w':ac) (q:aC w.heap.size w w') (h:Kpb bx kd sh id n ld s0 s1 s2 s3 j v w):Kpb bx kd sh id n ld s0 s1 s2 s3 j v w':=by
 match j,h with
 |5,h=>obtain⟨g,r,d,z⟩:=h;have lt:g<w.heap.size:=xbl w _ d;exact⟨g,r,(q.cell (p:=⟨g,0,ε⟩) lt).trans d,(q.cell (p:=⟨g,1,ε⟩) lt).trans z⟩
 |0,h|1,h|2,h|3,h|4,h|6,h|7,h|8,h|9,h|10,h|11,h|12,h|13,h|14,h|15,h|16,h|17,h|18,h|19,h=>exact h
 |k+20,_=>trivial
theorem jm4 (fC:a.tmps.size=41) (Fs:a.defers=[]) (h1:a.tmps.getD 1 ai=ξ (ζ ⟨bx,0,ε⟩)) (c0:w.cell? ⟨bx,0,ε⟩=ζ (σ Ξ kd)) (c1:w.cell? ⟨bx,1,ε⟩=ζ (σ υ sh)) (c2:w.cell? ⟨bx,2,ε⟩=ζ (σ υ id)) (c3:w.cell? ⟨bx,3,ε⟩=ζ (σ υ n)) (c4:w.cell? ⟨bx,4,ε⟩=ζ (Γ ld))
  (yR:kd<256) (jE:sh<256) (G:s0=⟨#[b8 kd,b8 sh]⟩) (l1:s1.size<=9) (l2:s2.size<=9) (l3:s3.size<=1048585)
  (M:∀W:ac,aR prog 113 #[σ υ id] W λe w'=>e=ψ (Γ s1)/\aC W.heap.size W w') (O:∀W:ac,aR prog 113 #[σ υ n] W λe w'=>e=ψ (Γ s2)/\aC W.heap.size W w') (T:∀W:ac,aR prog 114 #[Γ ld] W λe w'=>e=ψ (Γ s3)/\aC W.heap.size W w')
  (hQ:∀y w',(∀s,(∀(j:dw) o,pb1[j]?=ζ o->o.dst≠ζ s)->y s=a.tmps.getD s ai)->y 3=Γ (s0++s1++s2++s3)->aC w.heap.size w w'->Q .normal ⟨lay 41 y,[]⟩ w'):(Code.region 1 pb1 η).wp prog Q a w:=by
 have l0:s0.size=2:=by rw[G];rfl
 have lt:bx<w.heap.size:=xbl w _ c0;have hst:=underlying133;refine Yz (n:=41) (x0:=λs=>a.tmps.getD s ai) (w0:=w.drew) (KN:=Kpb bx kd sh id n ld s0 s1 s2 s3) (by kernel_rfl) jb4 ⟨_,?_,λ_=>lc⟩ lc q0r ?_ ?_;{obtain⟨t,df⟩:=a;obtain rfl:df=[]:=Fs;rw[Bc fC]}
 .intro j o d x w1 q r hx z E;have D:∀f,w1.cell? ⟨bx,f,ε⟩=w.cell? ⟨bx,f,ε⟩:=λf=>E.cell (p:=⟨bx,f,ε⟩) lt;have C:x 1=ξ (ζ ⟨bx,0,ε⟩):=(hx 1 (yB (by kernel_rfl))).trans h1;match j,q with
  |0,q=>cases q;cases r;exact qo (IZ 0 (by decide) lc (xg C)) ⟨_,qd lc,lc,qy _ _⟩
  |1,q=>cases q;cases r;have k0:x 5=ξ (ζ ⟨bx,0,ε⟩):=z 0 _ 5 lc lc (qp lc);exact qo (zq (ty:=131) lc (xg k0) (by simp[isAgg]) ((D 0).trans c0)) ⟨_,qd lc,lc,qy _ _⟩
  |2,q=>cases q;cases r;exact qo (IZ 1 (by decide) lc (xg C)) ⟨_,qd lc,lc,qy _ _⟩
  |3,q=>cases q;cases r;have k2:x 7=ξ (ζ ⟨bx,1,ε⟩):=z 2 _ 7 lc lc (qp lc);exact qo (zq (ty:=3) lc (xg k2) (by simp[isAgg]) ((D 1).trans c1)) ⟨_,qd lc,lc,qy _ _⟩
  |4,q=>
   obtain rfl:=xop (a:=pbo 4) lc q;obtain rfl:=xop (a:=9) lc r;have k3:x 8=σ υ sh:=z 3 _ 8 lc lc (qp lc);have G6:IntKind.u8.wrap (sh:gJ)=(sh:gJ):=by rw[bJ];omega
   have B:=QG (o:=pbo 4) (w:=w1) lc (tmp (n:=41) (by decide) k3);rw[G6]at B;exact qo B ⟨_,qd lc,lc,qy _ _⟩
  |5,q=>cases q;cases r;have k1:x 6=σ Ξ kd:=z 1 _ 6 lc lc (qp lc);have k4:x 9=σ Ξ sh:=z 4 _ 9 lc lc (qp lc);exact qo (X0 lc (xg k1) (xg k4)) ⟨_,qd lc,⟨w1.heap.size,lc,jeo _ _ _ _,jep _ _ _ _⟩,(qy _ _).alloc (jg _) _⟩
  |6,q=>cases q;cases r;obtain⟨g,k5,q0,q1⟩:Kpb bx kd sh id n ld s0 s1 s2 s3 5 (x 10) w1:=z 5 _ 10 lc lc (qp lc);have J:=jd6 w1 g kd sh (b8 kd) (b8 sh) (by rw[Ac yR]) (by rw[Ac jE]) q0 q1;rw[<-G]at J;exact qo (Wh lc (xg k5) J) ⟨_,qd lc,lc,qy _ _⟩
  |7,q=>cases q;cases r;exact qo (IZ 2 (by decide) lc (xg C)) ⟨_,qd lc,lc,qy _ _⟩
  |8,q=>cases q;cases r;have k7:x 12=ξ (ζ ⟨bx,2,ε⟩):=z 7 _ 12 lc lc (qp lc);exact qo (zq (ty:=3) lc (xg k7) (by simp[isAgg]) ((D 2).trans c2)) ⟨_,qd lc,lc,qy _ _⟩
  |9,q=>obtain rfl:=xop (a:=pbo 9) lc q;obtain rfl:=xop (a:=14) lc r;have k8:x 13=σ υ id:=z 8 _ 13 lc lc (qp lc);have B:=GK (o:=pbo 9) (w:=w1) lc (tmp (n:=41) (by decide) k8) func113 (by kernel_rfl) (by kernel_rfl);refine Ez B (M w1) λe w2 h=>⟨_,h.1,_,qd lc,lc,h.2⟩
  |10,q=>cases q;cases r;have k6:x 11=Γ s0:=z 6 _ 11 lc lc (qp lc);have k9:x 14=Γ s1:=z 9 _ 14 lc lc (qp lc);exact qo (Ab lc (xg k6) (xg k9) (by omega)) ⟨_,qd lc,lc,qy _ _⟩
  |11,q=>cases q;cases r;exact qo (IZ 3 (by decide) lc (xg C)) ⟨_,qd lc,lc,qy _ _⟩
  |12,q=>cases q;cases r;have xQ:x 16=ξ (ζ ⟨bx,3,ε⟩):=z 11 _ 16 lc lc (qp lc);exact qo (zq (ty:=3) lc (xg xQ) (by simp[isAgg]) ((D 3).trans c3)) ⟨_,qd lc,lc,qy _ _⟩
  |13,q=>obtain rfl:=xop (a:=pbo 13) lc q;obtain rfl:=xop (a:=18) lc r;have xP:x 17=σ υ n:=z 12 _ 17 lc lc (qp lc);have B:=GK (o:=pbo 13) (w:=w1) lc (tmp (n:=41) (by decide) xP) func113 (by kernel_rfl) (by kernel_rfl);refine Ez B (O w1) λe w2 h=>⟨_,h.1,_,qd lc,lc,h.2⟩
  |14,q=>cases q;cases r;have nX:x 15=Γ (s0++s1):=z 10 _ 15 lc lc (qp lc);have Y:x 18=Γ s2:=z 13 _ 18 lc lc (qp lc);exact qo (Ab lc (xg nX) (xg Y) (by simp only[bg];omega)) ⟨_,qd lc,lc,qy _ _⟩
  |15,q=>cases q;cases r;exact qo (IZ 4 (by decide) lc (xg C)) ⟨_,qd lc,lc,qy _ _⟩
  |16,q=>cases q;cases r;have X:x 20=ξ (ζ ⟨bx,4,ε⟩):=z 15 _ 20 lc lc (qp lc);exact qo (zq (ty:=9) lc (xg X) (by simp[isAgg]) ((D 4).trans c4)) ⟨_,qd lc,lc,qy _ _⟩
  |17,q=>obtain rfl:=xop (a:=pbo 17) lc q;obtain rfl:=xop (a:=22) lc r;have JP:x 21=Γ ld:=z 16 _ 21 lc lc (qp lc);have B:=GK (o:=pbo 17) (w:=w1) lc (tmp (n:=41) (by decide) JP) func114 (by kernel_rfl) (by kernel_rfl);refine Ez B (T w1) λe w2 h=>⟨_,h.1,_,qd lc,lc,h.2⟩
  |18,q=>cases q;cases r;have U:x 19=Γ (s0++s1++s2):=z 14 _ 19 lc lc (qp lc);have V:x 22=Γ s3:=z 17 _ 22 lc lc (qp lc);exact qo (Ab lc (xg U) (xg V) (by simp only[bg];omega)) ⟨_,qd lc,lc,qy _ _⟩
  |19,q=>cases q;cases r;have JO:x 23=Γ (s0++s1++s2++s3):=z 18 _ 23 lc lc (qp lc);exact qo (Ma lc (xg JO)) ⟨_,qd lc,lc,qy _ _⟩
  |k+20,q=>exact jC q (by rw[cC (show pb1.size<=k+20 by show 20<=k+20;omega)];exact λe=>by cases e)
 .intro y w1 hy hk E;exact hQ y w1 hy (hk 19 (pbo 19) 3 lc lc) (Below.trans (b:=w.drew) ⟨lc,lc,lc,jg _,λ_ _=>lc⟩ E)
noncomputable def db1:gF Oper:=match Tryz.f100.body with|some (.seq _ (.seq a _))=>rg a|_=>#[]
noncomputable def dbo (k:dw):Oper:=db1.getD k ⟨ε,.alloc 0,0, "",#[],ε⟩
theorem jad:GN db1 42=η:=by kernel_rfl
def Kdb (bx kd sh id n:dw) (ld s0 s1 s2 s3:bn):dw->aa->ac->Prop
 |0,v,_=>v=ξ (ζ ⟨bx,0,ε⟩)
 |1,v,_=>v=σ υ kd
 |2,v,_=>v=σ Ξ kd
 |3,v,_=>v=ξ (ζ ⟨bx,1,ε⟩)
 |4,v,_=>v=σ υ sh
 |5,v,_=>v=σ Ξ sh
 |6,v,w=>∃g,v=Δ (ζ ⟨g,0,ε⟩) 2 2/\w.cell? ⟨g,0,ε⟩=ζ (σ Ξ kd)/\w.cell? ⟨g,1,ε⟩=ζ (σ Ξ sh)
 |7,v,_=>v=Γ s0
 |8,v,_=>v=ξ (ζ ⟨bx,2,ε⟩)
 |9,v,_=>v=σ υ id
 |10,v,_=>v=Γ s1
 |11,v,_=>v=Γ (s0++s1)
 |12,v,_=>v=ξ (ζ ⟨bx,3,ε⟩)
 |13,v,_=>v=σ υ n
 |14,v,_=>v=Γ s2
 |15,v,_=>v=Γ (s0++s1++s2)
 |16,v,_=>v=ξ (ζ ⟨bx,4,ε⟩)
 |17,v,_=>v=Γ ld
 |18,v,_=>v=Γ s3
 |19,v,_=>v=Γ (s0++s1++s2++s3)
 |20,v,_=>v=Γ (s0++s1++s2++s3)
 |_,_,_=>True
theorem q0q (j:dw) (v:aa) (w w':ac) (q:aC w.heap.size w w') (h:Kdb bx kd sh id n ld s0 s1 s2 s3 j v w):Kdb bx kd sh id n ld s0 s1 s2 s3 j v w':=by
 match j,h with
 |6,h=>obtain⟨g,r,d,z⟩:=h;have lt:g<w.heap.size:=xbl w _ d;exact⟨g,r,(q.cell (p:=⟨g,0,ε⟩) lt).trans d,(q.cell (p:=⟨g,1,ε⟩) lt).trans z⟩
 |0,h|1,h|2,h|3,h|4,h|5,h|7,h|8,h|9,h|10,h|11,h|12,h|13,h|14,h|15,h|16,h|17,h|18,h|19,h|20,h=>exact h
 |k+21,_=>trivial
theorem jkb (fC:a.tmps.size=42) (Fs:a.defers=[]) (h1:a.tmps.getD 1 ai=ξ (ζ ⟨bx,0,ε⟩)) (c0:w.cell? ⟨bx,0,ε⟩=ζ (σ υ kd)) (c1:w.cell? ⟨bx,1,ε⟩=ζ (σ υ sh)) (c2:w.cell? ⟨bx,2,ε⟩=ζ (σ υ id)) (c3:w.cell? ⟨bx,3,ε⟩=ζ (σ υ n)) (c4:w.cell? ⟨bx,4,ε⟩=ζ (Γ ld))
  (yR:kd<256) (jE:sh<256) (J:s0=⟨#[b8 kd,b8 sh]⟩) (l1:s1.size<=9) (l2:s2.size<=9) (l3:s3.size<=1048585)
  (O:∀W:ac,aR prog 97 #[σ υ id] W λe w'=>e=ψ (Γ s1)/\aC W.heap.size W w') (T:∀W:ac,aR prog 97 #[σ υ n] W λe w'=>e=ψ (Γ s2)/\aC W.heap.size W w') (U:∀W:ac,aR prog 98 #[Γ ld] W λe w'=>e=ψ (Γ s3)/\aC W.heap.size W w')
  (hQ:∀y w',(∀s,(∀(j:dw) o,db1[j]?=ζ o->o.dst≠ζ s)->y s=a.tmps.getD s ai)->y 3=Γ (s0++s1++s2++s3)->aC w.heap.size w w'->Q .normal ⟨lay 42 y,[]⟩ w'):(Code.region 1 db1 η).wp prog Q a w:=by
 have l0:s0.size=2:=by rw[J];rfl
 have lt:bx<w.heap.size:=xbl w _ c0;have hst:=underlying182;refine Yz (n:=42) (x0:=λs=>a.tmps.getD s ai) (w0:=w.drew) (KN:=Kdb bx kd sh id n ld s0 s1 s2 s3) (by kernel_rfl) jad ⟨_,?_,λ_=>lc⟩ lc q0q ?_ ?_;{obtain⟨t,df⟩:=a;obtain rfl:df=[]:=Fs;rw[Bc fC]}
 .intro j o d x w1 q r hx z G;have D:∀f,w1.cell? ⟨bx,f,ε⟩=w.cell? ⟨bx,f,ε⟩:=λf=>G.cell (p:=⟨bx,f,ε⟩) lt;have C:x 1=ξ (ζ ⟨bx,0,ε⟩):=(hx 1 (yB (by kernel_rfl))).trans h1;match j,q with
  |0,q=>cases q;cases r;exact qo (I4 0 (by decide) lc (xg C)) ⟨_,qd lc,lc,qy _ _⟩
  |1,q=>cases q;cases r;have k0:x 5=ξ (ζ ⟨bx,0,ε⟩):=z 0 _ 5 lc lc (qp lc);exact qo (zq (ty:=3) lc (xg k0) (by simp[isAgg]) ((D 0).trans c0)) ⟨_,qd lc,lc,qy _ _⟩
  |2,q=>
   obtain rfl:=xop (a:=dbo 2) lc q;obtain rfl:=xop (a:=7) lc r;have k1:x 6=σ υ kd:=z 1 _ 6 lc lc (qp lc);have E:IntKind.u8.wrap (kd:gJ)=(kd:gJ):=by rw[bJ];omega
   have B:=QG (o:=dbo 2) (w:=w1) lc (tmp (n:=42) (by decide) k1);rw[E]at B;exact qo B ⟨_,qd lc,lc,qy _ _⟩
  |3,q=>cases q;cases r;exact qo (I4 1 (by decide) lc (xg C)) ⟨_,qd lc,lc,qy _ _⟩
  |4,q=>cases q;cases r;have k3:x 8=ξ (ζ ⟨bx,1,ε⟩):=z 3 _ 8 lc lc (qp lc);exact qo (zq (ty:=3) lc (xg k3) (by simp[isAgg]) ((D 1).trans c1)) ⟨_,qd lc,lc,qy _ _⟩
  |5,q=>
   obtain rfl:=xop (a:=dbo 5) lc q;obtain rfl:=xop (a:=10) lc r;have k4:x 9=σ υ sh:=z 4 _ 9 lc lc (qp lc);have E:IntKind.u8.wrap (sh:gJ)=(sh:gJ):=by rw[bJ];omega
   have B:=QG (o:=dbo 5) (w:=w1) lc (tmp (n:=42) (by decide) k4);rw[E]at B;exact qo B ⟨_,qd lc,lc,qy _ _⟩
  |6,q=>cases q;cases r;have k2:x 7=σ Ξ kd:=z 2 _ 7 lc lc (qp lc);have k5:x 10=σ Ξ sh:=z 5 _ 10 lc lc (qp lc);exact qo (X0 lc (xg k2) (xg k5)) ⟨_,qd lc,⟨w1.heap.size,lc,jeo _ _ _ _,jep _ _ _ _⟩,(qy _ _).alloc (jg _) _⟩
  |7,q=>cases q;cases r;obtain⟨g,k6,q0,q1⟩:Kdb bx kd sh id n ld s0 s1 s2 s3 6 (x 11) w1:=z 6 _ 11 lc lc (qp lc);have M:=jd6 w1 g kd sh (b8 kd) (b8 sh) (by rw[Ac yR]) (by rw[Ac jE]) q0 q1;rw[<-J]at M;exact qo (Wh lc (xg k6) M) ⟨_,qd lc,lc,qy _ _⟩
  |8,q=>cases q;cases r;exact qo (I4 2 (by decide) lc (xg C)) ⟨_,qd lc,lc,qy _ _⟩
  |9,q=>cases q;cases r;have k8:x 13=ξ (ζ ⟨bx,2,ε⟩):=z 8 _ 13 lc lc (qp lc);exact qo (zq (ty:=3) lc (xg k8) (by simp[isAgg]) ((D 2).trans c2)) ⟨_,qd lc,lc,qy _ _⟩
  |10,q=>obtain rfl:=xop (a:=dbo 10) lc q;obtain rfl:=xop (a:=15) lc r;have k9:x 14=σ υ id:=z 9 _ 14 lc lc (qp lc);have B:=GK (o:=dbo 10) (w:=w1) lc (tmp (n:=42) (by decide) k9) func97 (by kernel_rfl) (by kernel_rfl);refine Ez B (O w1) λe w2 h=>⟨_,h.1,_,qd lc,lc,h.2⟩
  |11,q=>cases q;cases r;have k7:x 12=Γ s0:=z 7 _ 12 lc lc (qp lc);have nX:x 15=Γ s1:=z 10 _ 15 lc lc (qp lc);exact qo (Ab lc (xg k7) (xg nX) (by omega)) ⟨_,qd lc,lc,qy _ _⟩
  |12,q=>cases q;cases r;exact qo (I4 3 (by decide) lc (xg C)) ⟨_,qd lc,lc,qy _ _⟩
  |13,q=>cases q;cases r;have xP:x 17=ξ (ζ ⟨bx,3,ε⟩):=z 12 _ 17 lc lc (qp lc);exact qo (zq (ty:=3) lc (xg xP) (by simp[isAgg]) ((D 3).trans c3)) ⟨_,qd lc,lc,qy _ _⟩
  |14,q=>obtain rfl:=xop (a:=dbo 14) lc q;obtain rfl:=xop (a:=19) lc r;have EP:x 18=σ υ n:=z 13 _ 18 lc lc (qp lc);have B:=GK (o:=dbo 14) (w:=w1) lc (tmp (n:=42) (by decide) EP) func97 (by kernel_rfl) (by kernel_rfl);refine Ez B (T w1) λe w2 h=>⟨_,h.1,_,qd lc,lc,h.2⟩
  |15,q=>cases q;cases r;have xQ:x 16=Γ (s0++s1):=z 11 _ 16 lc lc (qp lc);have V:x 19=Γ s2:=z 14 _ 19 lc lc (qp lc);exact qo (Ab lc (xg xQ) (xg V) (by simp only[bg];omega)) ⟨_,qd lc,lc,qy _ _⟩
  |16,q=>cases q;cases r;exact qo (I4 4 (by decide) lc (xg C)) ⟨_,qd lc,lc,qy _ _⟩
  |17,q=>cases q;cases r;have JP:x 21=ξ (ζ ⟨bx,4,ε⟩):=z 16 _ 21 lc lc (qp lc);exact qo (zq (ty:=9) lc (xg JP) (by simp[isAgg]) ((D 4).trans c4)) ⟨_,qd lc,lc,qy _ _⟩
  |18,q=>obtain rfl:=xop (a:=dbo 18) lc q;obtain rfl:=xop (a:=23) lc r;have X:x 22=Γ ld:=z 17 _ 22 lc lc (qp lc);have B:=GK (o:=dbo 18) (w:=w1) lc (tmp (n:=42) (by decide) X) func98 (by kernel_rfl) (by kernel_rfl);refine Ez B (U w1) λe w2 h=>⟨_,h.1,_,qd lc,lc,h.2⟩
  |19,q=>cases q;cases r;have Y:x 20=Γ (s0++s1++s2):=z 15 _ 20 lc lc (qp lc);have JO:x 23=Γ s3:=z 18 _ 23 lc lc (qp lc);exact qo (Ab lc (xg Y) (xg JO) (by simp only[bg];omega)) ⟨_,qd lc,lc,qy _ _⟩
  |20,q=>cases q;cases r;have RD:x 24=Γ (s0++s1++s2++s3):=z 19 _ 24 lc lc (qp lc);exact qo (Ma lc (xg RD)) ⟨_,qd lc,lc,qy _ _⟩
  |k+21,q=>exact jC q (by rw[cC (show db1.size<=k+21 by show 21<=k+21;omega)];exact λe=>by cases e)
 .intro y w1 hy hk G;exact hQ y w1 hy (hk 20 (dbo 20) 3 lc lc) (Below.trans (b:=w.drew) ⟨lc,lc,lc,jg _,λ_ _=>lc⟩ G)
variable {N:Blocks} {kv:fo aa} {cs fw:fo bp} {w w1:ac} {Z:bp->ac->Prop} {b:bp} {k:fo Item}
theorem qg.opn {x:dw->aa} {td:fo dw} {v:aa} (q:blG b.fn=θ) (B:ops[i]?=ζ o) (d:kJ XG.P XG.P fb η (Sim.bare o)=η) (E:ah o (aS ops (lay n x))=η) (z:o.dst=ζ j)
  (C:∀wc,Same w wc->(ae (bI (lay n x) []).eval o).run prog wc=.ok (.value v) wc) (G:∀w',Same w w'->qg N kv cs (b.at ⟨lay n (upd x j v),[]⟩ (π ops td::k)) w' fw Z):qg N kv cs (b.at ⟨lay n x,[]⟩ (π ops (i::td)::k)) w fw Z:=by
 refine qg.op q 0 B d E (Q:=λa w'=>a=⟨lay n (upd x j v),[]⟩/\Same w w') (λa w1 wc s h=>⟨h.1,h.2.trans s⟩) (λwc s=>?_) ?_;{refine wp_region_list ?_;refine wpList_plain (o:=Sim.bare o) lc λK r=>?_;have J:(ae (bI (lay n x) []).eval (Sim.bare o)).run XG.P wc=.ok (.value v) wc:=C wc s;refine qo J (r _ _ (wpList_nil ⟨lc,?_,s⟩));show(bI (lay n x) []).put o.dst v=_;exact qd z};rintro _ w' ⟨rfl,D⟩;exact G w' D
theorem jav {d:gF bV} {ty:gF ao} {fn:Func} {vs:gF aa} (E:o.op=.call {callee:=.value (.func f),args:=d,argTypes:=ty}) (q:e (.func f)=.func (.func f) #[] #[]) (G:d.map e=vs) (C:prog.funcs[f]?=ζ fn) (D:(fn.name== "runtime.NumGoroutine")=θ) (B:fn.body.isNone=θ):
  ∀w,(ae e o).run XG.P w=.ok (.enter f vs) w/\(ae e o).events XG.P w #[]=#[]:=by
 intro w;show(ae _ _).run prog w=_/\(ae _ _).events prog w #[]=_;have J:ae e o=aE f vs:=by subst G;unfold ae;simp[go_sem,E,resolve,invoke,q]
 rw[J];have r:¬(fn.name= "runtime.NumGoroutine"):=λe=>by rw[e]at D;cases D
 have z:¬(fn.body=ε):=λe=>by rw[e]at B;cases B
 constructor;{simp[aE,go_sem,C,r,z]};simp[aE,go_sem,C,r,z]
end
theorem IE (w:ac):(isAgg 9).run prog w=.ok θ w:=by have d:=underlying9;simp[isAgg,go_sem,d]
theorem LF (w:ac):(isAgg 3).run prog w=.ok θ w:=by have d:=underlying3;simp[isAgg,go_sem,d]
theorem jgp (w:ac):(isAgg 40).run prog w=.ok θ w:=by have d:=underlying40;simp[isAgg,go_sem,d]
def upx:fo (dw×dw×aa)->(dw->aa)->dw->aa
 |[],x=>x
 |p::l,x=>upx l (upd x p.2.1 p.2.2)
noncomputable def ckO (t:je) (R:gF Oper) (n i j:dw) (x:dw->aa) (w:ac):gI (aa×ac×gF dJ):=
 match R[i]? with
 |none=>ε
 |some o=>if(t||kJ XG.P XG.P fb η (Sim.bare o))&&o.dst==ζ j then
   if ah o (aS R (lay n x))then
    match(ae (evx n x) o).run prog w with
    |.ok (.value v) w'=>ζ (v,w',if t then(ae (evx n x) o).events prog w #[]else #[])
    |_=>ε
   else ζ (ai,w,#[])
  else ε
noncomputable def ckL (t:je) (R:gF Oper) (n:dw):fo (dw×dw×aa)->(dw->aa)->ac->fo (gI (aa×ac×gF dJ))
 |[],_,_=>[]
 |p::l,x,w=>ckO t R n p.1 p.2.1 x w::ckL t R n l (upd x p.2.1 p.2.2) w
section
variable {N:Blocks} {kv:fo aa} {cs fw:fo bp} {w:ac} {Z:bp->ac->Prop} {b:bp} {k:fo Item} {R:gF Oper} {n i j:dw} {x:dw->aa} {w':ac} {v:aa} {rest:fo dw} {t:je}
theorem LU {es:gF dJ} (h:ckO t R n i j x w=ζ (v,w',es)):∃o,R[i]?=ζ o/\o.dst=ζ j/\(t=θ->kJ XG.P XG.P fb η (Sim.bare o)=η)/\
  (ah o (aS R (lay n x))=η/\(ae (evx n x) o).run prog w=.ok (.value v) w'/\(t=η->(ae (evx n x) o).events prog w #[]=es)\/ah o (aS R (lay n x))=θ/\v=ai/\w'=w):=by
 unfold ckO at h;split at h;{cases h};rename_i o r;split at h;{rename_i d;simp only[bK,beq_iff_eq,Bool.or_eq_true]at d;refine⟨o,r,d.2,λe=>by rw[e]at d;simpa using d.1,?_⟩;split at h;{rename_i q;split at h;{rename_i z;cases h;exact ι ⟨q,z,λe=>by rw[e];rfl⟩};cases h};rename_i q;cases h;exact κ ⟨by simpa using q,lc,lc⟩};cases h
theorem qg.pu:∀(L:fo (dw×dw×aa)) {x:dw->aa} {w:ac} {td:fo dw},blG b.fn=θ->(td=L.map (·.1)++rest)->(∀wc,ckL θ R n L x wc=L.map λp=>ζ (p.2.2,wc,#[]))->(∀w',Same w w'->qg N kv cs (b.at ⟨lay n (upx L x),[]⟩ (π R rest::k)) w' fw Z)->qg N kv cs (b.at ⟨lay n x,[]⟩ (π R td::k)) w fw Z
 |[],x,w,td,_,ht,_,nx=>by subst ht;exact nx w (Same.refl w)
 |(i,j,v)::L,x,w,td,gQ,ht,hr,nx=>by subst ht;have z:∀wc,ckO θ R n i j x wc=ζ (v,wc,#[]):=λwc=>(List.cons.inj (hr wc)).1;have B:∀wc,ckL θ R n L (upd x j v) wc=L.map λp=>ζ (p.2.2,wc,#[]):=λwc=>(List.cons.inj (hr wc)).2;obtain⟨o,r,C,E,G⟩:=LU (z w);rcases G with⟨d,_⟩|⟨d,rfl,_⟩;{refine qg.opn (j:=j) (o:=o) (v:=v) gQ r (E lc) d C (λwc _=>?_) λw1 s1=>qg.pu L gQ lc B λw2 s2=>nx w2 (s1.trans s2);obtain⟨M,D,_,_,J⟩:=LU (z wc);rw[r]at D;cases D;rcases J with⟨_,q,_⟩|⟨q,_⟩;{exact q};rw[d]at q;cases q};refine qg.unwanted r d ?_;rw[C];show qg N kv cs (b.at ⟨(lay n x).setIfInBounds j ai,[]⟩ _) w fw Z;rw[wI];exact qg.pu L gQ lc B λw2 s2=>nx w2 s2
theorem qg.bq:∀(L:fo (dw×dw×aa)) {x:dw->aa} {td:fo dw},blG b.fn=η->b.kind≠.early->(td=L.map (·.1)++rest)->(∀wc,ckL η R n L x wc=L.map λp=>ζ (p.2.2,wc,#[]))->qg N kv cs (b.at ⟨lay n (upx L x),[]⟩ (π R rest::k)) w fw Z->qg N kv cs (b.at ⟨lay n x,[]⟩ (π R td::k)) w fw Z
 |[],x,td,_,_,ht,_,nx=>by subst ht;exact nx
 |(i,j,v)::L,x,td,gQ,hk,ht,hr,nx=>by subst ht;have z:∀wc,ckO η R n i j x wc=ζ (v,wc,#[]):=λwc=>(List.cons.inj (hr wc)).1;have B:∀wc,ckL η R n L (upd x j v) wc=L.map λp=>ζ (p.2.2,wc,#[]):=λwc=>(List.cons.inj (hr wc)).2;obtain⟨o,r,C,O,E⟩:=LU (z w);rcases E with⟨d,_⟩|⟨d,rfl,_⟩;{refine qg.bv gQ hk v r C d (λwc=>?_) (qg.bq L gQ hk lc B nx);obtain⟨M,D,_,_,G⟩:=LU (z wc);rw[r]at D;cases D;rcases G with⟨_,q,J⟩|⟨q,_⟩;{exact⟨q,J lc⟩};rw[d]at q;cases q};exact qg.bu gQ r C d (qg.bq L gQ hk lc B nx)
end
abbrev fM:cF:=10
def bM:bp:=base fM
theorem mR:blG bM.fn=η:=rfl
theorem mK:bM.kind≠.early:=by decide
noncomputable def mB:=(Tryz.f10.body).getD .skip
noncomputable def mL:=match mB with|.seq _ (.seq _ (.seq (.seq _ (.block _ (.loop c))) _))=>c|_=>.skip
noncomputable def mI:=match mL with|.seq _ (.seq _ (.seq (.block _ c) _))=>c|_=>.skip
noncomputable def M0:=match mB with|.seq a _=>rg a|_=>#[]
noncomputable def M1:=match mB with|.seq _ (.seq a _)=>rg a|_=>#[]
noncomputable def M2:=match mB with|.seq _ (.seq _ (.seq (.seq a _) _))=>rg a|_=>#[]
noncomputable def M9:=match mB with|.seq _ (.seq _ (.seq _ (.seq a _)))=>rg a|_=>#[]
noncomputable def M3:=match mL with|.seq a _=>rg a|_=>#[]
noncomputable def M8:=match mL with|.seq _ (.seq _ (.seq _ a))=>rg a|_=>#[]
noncomputable def M4:=match mI with|.seq a _=>rg a|_=>#[]
noncomputable def M5:=match mI with|.seq _ (.seq a _)=>rg a|_=>#[]
noncomputable def M6:=match mI with|.seq _ (.seq _ (.seq a _))=>rg a|_=>#[]
noncomputable def M7:=match mI with|.seq _ (.seq _ (.seq _ (.cond _ (.seq a _) _)))=>rg a|_=>#[]
theorem jmj:mB=.seq (.region 0 M0 θ) (.seq (.region 1 M1 θ) (.seq (.seq (.region 2 M2 θ) (.block 0 (.loop mL))) (.seq (.region 9 M9 θ) .ret))):=rfl
theorem jel:mL=.seq (.region 3 M3 θ) (.seq (.cond (.tmp 11) .skip (.exit 0)) (.seq (.block 1 mI) (.region 8 M8 θ))):=rfl
theorem jmk:mI=.seq (.region 4 M4 θ) (.seq (.region 5 M5 θ) (.seq (.region 6 M6 θ) (.cond (.tmp 28) (.seq (.region 7 M7 θ) .ret) .skip))):=rfl
structure wH (n0:dw) (w:ac) (sp:gI Addr) (L:dw) (os:dw->OpV):Prop where
 at':0<L->∃g o0,sp=ζ ⟨g,o0,ε⟩/\g<n0/\g<w.heap.size/\∀i,i<L->∀(j:dw) v,(os i).cells.toList[j]?=ζ v->w.cell? ⟨g,o0+i*10+j,ε⟩=ζ v
 ok:∀i,i<L->OpV.Ok (os i)
 len:L<=140737488355328
theorem wH.but {n0:dw} {sp:gI Addr} {os:dw->OpV} (h:wH n0 w sp L os) (q:But (λb=>n0<=b) w w'):wH n0 w' sp L os:=by refine⟨λC=>?_,h.ok,h.len⟩;obtain⟨g,G,r,z,d,B⟩:=h.at' C;refine⟨g,G,r,z,xll d q.size,λi D j v E=>?_⟩;exact(xcb (q.keep g d (by omega))).trans (B i D j v E)
abbrev zOp:fo aa:=[σ υ 0,σ υ 0,σ υ 0,σ υ 0,σ υ 0,σ υ 0,σ υ 0,Γ ⟨#[]⟩,Γ ⟨#[]⟩,Γ ⟨#[]⟩]
theorem Rq:∀(w:ac) (es:gF dJ),(isAgg 30).runT XG.P w es=(.ok η w,es):=λw es=>by have d:=underlying30;show(isAgg _).runT prog w es=_;simp[isAgg,go_sem,Sem.runT_eq,d]
theorem Pf:(prog.info? 30).map (λi=>(i.zero,i.size))=ζ (ζ (Θ #[σ υ 0,σ υ 0,σ υ 0,σ υ 0,σ υ 0,σ υ 0,σ υ 0,Γ ⟨#[]⟩,Γ ⟨#[]⟩,Γ ⟨#[]⟩]),10):=by kernel_rfl
theorem RJ:∀(w:ac) (es:gF dJ),(sizeOf 30).runT XG.P w es=(.ok 10 w,es):=λw es=>by obtain⟨i,d,q⟩:=aY.1 Pf;injection q with _ r;show(sizeOf _).runT prog w es=_;simp[sizeOf,typeInfo,go_sem,Sem.runT_eq,d,r]
theorem YB (w:ac):(zeroValue 30).run prog w=.ok (Θ #[σ υ 0,σ υ 0,σ υ 0,σ υ 0,σ υ 0,σ υ 0,σ υ 0,Γ ⟨#[]⟩,Γ ⟨#[]⟩,Γ ⟨#[]⟩]) w:=(zero_of_info Pf).1 w
theorem YE:(prog.info? 30).map (·.size)=ζ 10:=(zero_of_info Pf).2
theorem Jz (o:OpV) (F:cF->Prop) (ρ:Rel):VR F ρ (.agg o.cells.toList.toArray) (.agg o.cells.toList.toArray):=
 .agg (.cons (.int _ _) (.cons (.int _ _) (.cons (.int _ _) (.cons (.int _ _) (.cons (.int _ _) (.cons (.int _ _) (.cons (.int _ _) (.cons (.string _) (.cons (.string _) (.cons (.string _) .nil))))))))))
section
variable {N:Blocks} {kv:fo aa} {cs fw:fo bp} {w:ac} {Z:bp->ac->Prop} {K:fo Item} {n i j:dw} {x:dw->aa}
theorem qg.NN {fn:Func} {v:aa} (r:XG.P.funcs[f]?=ζ fn) (B:∀w,(results fn (lay n x)).runT XG.P w #[]=(.ok v w,#[])) (d:∀ρ,VR XG.F ρ v v) (q:∀wc,Same w wc->R v wc):
  qg N kv cs ((base f).at ⟨lay n x,[]⟩ (.code .ret::K)) w cs (Ret f R):=
 qg.ret λwc z=>⟨lc,v,⟨lc,lc,lc,fn,r,B⟩,λρ _=>d ρ,q wc z⟩
theorem Xe:∀{x:dw->aa} {v:aa},x 2=v->∀w,(results Tryz.f10 (lay 32 x)).runT XG.P w #[]=(.ok v w,#[]):=λ{x v} h w=>by
 have e:Tryz.f10.results=#[.tmp 2]:=lc;have d:(lay 32 x)[2]?=ζ v:=by rw[Mg (by decide),h]
 show(results _ _).runT prog w #[]=_;simp[results,e,go_sem,aH,d]
variable {sp:gI Addr} {L cp ob n0:dw} {m:gJ} {o:OpV}
structure UMx (sl:aa) (m:gJ) (L i:dw) (x:dw->aa):Prop where
 m:x 3=σ υ m
 s:x 8=sl
 l:x 9=σ υ L
 i:x 10=σ υ i
theorem UMx.lay {sl:aa} (h:UMx sl m L i x):∃y,x=upd (upd (upd (upd y 10 (σ υ i)) 9 (σ υ L)) 8 sl) 3 (σ υ m):=by obtain⟨x,rfl⟩:=ql h.m;obtain⟨x,rfl⟩:=ql (x:=x) h.s;obtain⟨x,rfl⟩:=ql (x:=x) h.l;obtain⟨x,rfl⟩:=ql (x:=x) h.i;exact⟨x,lc⟩
def szT (os:dw->OpV):dw->dw
 |0=>0
 |i+1=>szT os i+((os i).s.size+(os i).t.size+(os i).u.size)
theorem jh1 (os:dw->OpV) {i:dw} (h:i<=j):szT os i<=szT os j:=by
 induction j with
 |zero=>
  obtain rfl:i=0:=by omega
  exact jg _
 |succ j ih=>
  rcases dR i (j+1)with h1|h1;{rw[szT];exact xlt (ih (by omega)) (Nat.le_add_right _ _)}
  .obtain rfl:i=j+1:=by omega
   exact jg _
theorem jgk {os:dw->OpV} {w0:ac} (hN:∀g,g<n0->N g) (E:wH n0 w0 sp L os) (Ka:n0<=w0.heap.size) (T:∀(t:je) w',(t=η->L+szT os L<=262144)->But (λ_=>kw) w0 w'->R (χ t) w'):
  ∀(d i:dw) (m:gJ) (x:dw->aa) (kv:fo aa) (w:ac),d=L-i->i<=L->(L:gJ)<=m->m<=4611686018427387904->(m=L\/m<=262144)->m=(L:gJ)+szT os i->But (λ_=>kw) w0 w->UMx (.slice sp L cp) m L i x->
   qg N kv cs (bM.at ⟨lay 32 x,[]⟩ (.code mL::.inLoop mL::.inBlock 0::.code (.seq (.region 9 M9 θ) .ret)::K)) w cs (Ret fM R):=by
 intro d;induction d with
 |zero=>
  intro i m x kv w hd hi D hm V U q J;obtain rfl:i=L:=by omega
  obtain⟨x,rfl⟩:=J.lay;rw[jel];refine qg.seq (qg.region (qg.bq (rest:=[]) [(0,11,χ (ν ((i:gJ)<i)))] mR mK lc (λwc=>by kernel_rfl) (qg.regionEnd (qg.seq (qg.zU (t:=θ) (by decide) (eD bL (xdf (by omega))) ?_)))));refine qg.exit (k':=.code (.seq (.region 9 M9 θ) .ret)::K) lc (qg.seq (qg.region (qg.bq (rest:=[]) [(0,30,σ υ m),(1,31,χ (ν (m<=262144))),(2,2,χ (ν (m<=262144)))] mR mK lc (λwc=>by kernel_rfl) (qg.regionEnd ?_))));refine qg.NN func10 (Xe lc) (λρ=>.bool _) λwc s=>T _ _ (λG=>?_) (q.trans (But.same' s));have:=iO G;omega
 |succ d ih=>
  intro i m x kv w hd hi D hm V U q J;have hlen:=E.len;have B:i<L:=by omega
  obtain⟨g,o0,rfl,hg,M,iI⟩:=E.at' (by omega);have C:=E.ok i B;obtain⟨x,rfl⟩:=J.lay;rw[jel];refine qg.seq (qg.region (qg.bq (rest:=[]) [(0,11,χ (ν ((i:gJ)<L)))] mR mK lc (λwc=>by kernel_rfl) (qg.regionEnd (qg.seq (qg.zU (t:=η) (by decide) (eD bL (xdt (by omega))) (qg.skip (qg.seq (qg.block ?_))))))));rw[jmk];refine qg.seq (qg.region ?_);change qg N kv cs (bM.at ⟨lay 32 _,[]⟩ (π M4 [0,1,2,3]::_)) w cs _;refine qg.bv mR mK (ξ (ζ ⟨g,o0+i*10,ε⟩)) lc lc (jk lc) (Pure.idx lc (xg lc) (xg lc) B) ?_;refine qg.look (l:=(os i).cells.toList) mR mK lc lc (jk lc) (xg lc) (hN g hg) Rq RJ (xll M q.size) (λj v hj=>by rw[aj];exact(xcb (q.keep g M id)).trans (iI i B j v hj)) (λρ=>Jz _ _ ρ) ?_;change qg N kv cs (bM.at ⟨(lay 32 _).setIfInBounds 13 _,[]⟩ _) w cs _;rw[wI];refine qg.Zq mR mK lc lc lc (jk lc) (by kernel_rfl) YB ?_;refine qg.Zn (w0:=w) (z:=zOp) (l:=(os i).cells.toList) mR mK lc lc lc (jk lc) (by decide) lc (by decide) lc (.head _) (λρ=>Jz _ _ ρ) lc YE lc lc ?_;have O:But (λ_=>kw) w0 (w.alloc (.cells (os i).cells 30)):=q.trans (il ((qy _ _).alloc (jg _) _));have hblk:=bB w (.cells (os i).cells 30);have X:(w.alloc (.cells (os i).cells 30)).cell? ⟨w.heap.size,7,ε⟩=ζ (Γ (os i).s):=by unfold al;rw[hblk];rfl
  have Y:(w.alloc (.cells (os i).cells 30)).cell? ⟨w.heap.size,8,ε⟩=ζ (Γ (os i).t):=by unfold al;rw[hblk];rfl
  have c9:(w.alloc (.cells (os i).cells 30)).cell? ⟨w.heap.size,9,ε⟩=ζ (Γ (os i).u):=by unfold al;rw[hblk];rfl
  have s1:=C.s;have s2:=C.t;have s3:=C.u;refine qg.regionEnd (qg.seq (qg.region ?_));refine qg.bq (rest:=[2,3,4,5,6,7,8,9,10,11,12,13]) [(0,14,σ υ m),(1,15,ξ (ζ ⟨w.heap.size,7,ε⟩))] mR mK lc (λwc=>by kernel_rfl) ?_;refine qg.F5 mR mK lc lc lc (jk lc) (by decide) lc (.head _) IE X ?_;refine qg.bq (rest:=[5,6,7,8,9,10,11,12,13]) [(3,17,σ υ (os i).s.size),(4,18,ξ (ζ ⟨w.heap.size,8,ε⟩))] mR mK lc (λwc=>by kernel_rfl) ?_;refine qg.F5 mR mK lc lc lc (jk lc) (by decide) lc (.head _) IE Y ?_;refine qg.bq (rest:=[7,8,9,10,11,12,13]) [(6,20,σ υ (os i).t.size)] mR mK lc (λwc=>by kernel_rfl) ?_;refine qg.bv mR mK (σ υ ((os i).s.size+(os i).t.size)) lc lc (jk lc) (Pure.add lc (xg lc) (xg lc) (by omega) (by omega)) ?_;refine qg.bq (rest:=[9,10,11,12,13]) [(8,22,ξ (ζ ⟨w.heap.size,9,ε⟩))] mR mK lc (λwc=>by kernel_rfl) ?_;refine qg.F5 mR mK lc lc lc (jk lc) (by decide) lc (.head _) IE c9 ?_;refine qg.bq (rest:=[11,12,13]) [(10,24,σ υ (os i).u.size)] mR mK lc (λwc=>by kernel_rfl) ?_;refine qg.bv mR mK (σ υ ((os i).s.size+(os i).t.size+(os i).u.size)) lc lc (jk lc) (Pure.add lc (xg lc) (xg lc) (by omega) (by omega)) ?_;refine qg.bv mR mK (σ υ (m+((os i).s.size+(os i).t.size+(os i).u.size))) lc lc (jk lc) (Pure.add lc (xg lc) (xg lc) (by omega) (by omega)) ?_;generalize ru:m+((os i).s.size+(os i).t.size+(os i).u.size)=r;refine qg.bq (rest:=[]) [(13,3,σ υ r)] mR mK lc (λwc=>by kernel_rfl) ?_;refine qg.regionEnd (qg.seq (qg.region ?_));refine qg.bq (rest:=[]) [(0,27,σ υ r),(1,28,χ (ν (262144<r)))] mR mK lc (λwc=>by kernel_rfl) (qg.regionEnd ?_);by_cases ou:262144<r;{refine qg.zU (t:=η) (by decide) (eD bL (xdt ou)) (qg.seq (qg.region (qg.bq (rest:=[]) [(0,2,χ θ)] mR mK lc (λwc=>by kernel_rfl) (qg.regionEnd ?_))));exact qg.NN func10 (Xe lc) (λρ=>.bool _) λwc s=>T _ _ (λG=>by cases G) (O.trans (But.same' s))};refine qg.zU (t:=θ) (by decide) (eD bL (xdf ou)) (qg.skip (qg.inBlock (qg.region ?_)));change qg N _ cs (bM.at ⟨lay 32 _,[]⟩ (π M8 [0,1]::_)) _ cs _;refine qg.bv mR mK (σ υ ((i:gJ)+1)) lc lc (jk lc) (Pure.add lc (xg lc) lc (by omega) (by omega)) ?_;refine qg.bq (rest:=[]) [(1,10,σ υ ((i:gJ)+1))] mR mK lc (λwc=>by kernel_rfl) (qg.regionEnd (qg.inLoop ?_));exact ih (i+1) r _ _ _ (by omega) (by omega) (by omega) (by omega) (κ (by omega)) (by rw[<-ru,U,szT];push_cast;omega) O ⟨lc,lc,lc,lc⟩
end
section
variable {kv:fo aa} {w:ac} {sp:gI Addr} {L cp n0:dw} {os:dw->OpV} {N:Blocks}
theorem jj2 (v:aa) (t:gF aa):(#[v]++t).getD 0 ai=v:=by rw[aH,aK (by simp)];rfl
theorem qug {v:aa}:aI XG.P fM #[v] .normal=bM.at ⟨lay 32 (λi=>(#[v]++aZ 31 ai).getD i ai),[]⟩ [.code mB]:=by show aI prog fM _ .normal=_;rw[enter_at _ func10 (show Tryz.f10.body=ζ mB from lc)];have d:Tryz.f10.ntmps=32:=rfl;rw[d,Bc (by simp)];rfl
theorem jcu (C:∀g,g<n0->N g) (d:wH n0 w sp L os) (r:n0<=w.heap.size):AP N kv fM #[.slice sp L cp] w λv w'=>∃t,v=χ t/\(t=η->L+szT os L<=262144)/\But (λ_=>kw) w w':=λE=>by
 rw[qug,jmj];generalize q:(λi=>(#[bP sp L cp]++aZ 31 ai).getD i ai)=x;have x0:x 0=.slice sp L cp:=by rw[<-q];exact jj2 _ _
 clear q;obtain⟨x,rfl⟩:=ql x0;refine qg.seq (qg.region (qg.bq (rest:=[]) [(0,2,χ θ)] mR mK lc (λwc=>by kernel_rfl) (qg.regionEnd ?_)));refine qg.seq (qg.region (qg.bq (rest:=[]) [(0,6,.slice sp L cp),(1,7,σ υ L),(2,3,σ υ L)] mR mK lc (λwc=>by kernel_rfl) (qg.regionEnd ?_)));refine qg.seq (qg.seq (qg.region (qg.bq (rest:=[]) [(0,8,.slice sp L cp),(1,9,σ υ L),(2,10,σ υ 0)] mR mK lc (λwc=>by kernel_rfl) (qg.regionEnd (qg.block (qg.loop ?_))))));have D:=d.len;exact jgk C d r (λt w' z B=>⟨t,lc,z,B⟩) (L-0) 0 L _ _ _ lc (xzl _) (Int.le_refl _) (by omega) (ι lc) (by simp[szT]) (But.refl _ _) ⟨lc,lc,lc,lc⟩
end
end Go.Proofs.YtkpekiajdlolnabGreat.Ph
namespace Go.Proofs.YtkpekiajdlolnabGreat
open Go.RowKit Go.Maps
section
variable {w:ac}
def yA (a:gJ) (n:dw):dw:=((if a<0 then -(a+1)else a).toNat)%n
theorem YI (a:gJ) (n:dw) (E:0<n) (z:n<=4398046511104) (C: -9223372036854775808<=a) (D:a<=9223372036854775807):
  aR prog 23 #[σ υ a,σ υ n] w λe w'=>(e=ψ (σ υ (yA a n:dw))/\w'=w):=by
 have B:¬n=0:=by omega
 by_cases h:a<0
 .have r:ν (a<0)=η:=xdt h;obtain⟨b,q⟩:∃b:dw,-(a+1)=b:=⟨(-(a+1)).toNat,by omega⟩
  have d:yA a n=b%n:=by unfold yA;rw[jb h,q];rfl
  rw[d];obtain rfl:a= -(b:gJ)-1:=by omega
  clear d q;go_enter func23,ntmps23;go_wp2;go_ret;exact⟨lc,lc⟩
 .have r:ν (a<0)=θ:=xdf h;obtain⟨b,rfl⟩:∃b:dw,a=b:=⟨a.toNat,by omega⟩
  have d:yA b n=b%n:=by unfold yA;rw[gY h];rfl
  rw[d];clear d;go_enter func23,ntmps23;go_wp2;go_ret;exact⟨lc,lc⟩
theorem q8w (k:gJ) (h:k<=5):aR prog 14 #[σ υ k] w λe w'=>(e=ψ (σ υ 1)/\w'=w):=by have d:ν (k<=5)=η:=xdt h;go_enter func14,ntmps14;go_wp2;go_ret;exact⟨lc,lc⟩
theorem Xb {v:aa} {l:KV} {base:dw} (h:w.ownsRow base 74 2 v l.length (flat l)) (r:v.ownBlock=ζ g) {p:Bs×Bs} (z:l[j]?=ζ p):w.cell? ⟨g,j*2,ε⟩=ζ (sv p.1)/\w.cell? ⟨g,j*2+1,ε⟩=ζ (sv p.2):=by obtain⟨B,C⟩:=flat_get l j p z;have d:=h.cells r _ _ B;have q:=h.cells r _ _ C;rw[aj,az]at d q;exact⟨d,q⟩
theorem jhl {a b:aa} {l r:KV} {ba bb:dw} (T:w.ownsRow ba 74 2 a l.length (flat l)) (U:w.ownsRow bb 74 2 b r.length (flat r)) (hl:l.length<=1073741824):aR prog 29 #[a,b] w λe w'=>(∃t,e=ψ (χ t))/\aC w.heap.size w w':=by
 have sh:∀{v:aa} {l:KV} {q:dw},w.ownsRow q 74 2 v l.length (flat l)->∃Y ca,v=.slice Y l.length ca/\(0<l.length->∃g,Y=ζ ⟨g,0,ε⟩):=λ{v l q} h=>by rcases h.2 with⟨rfl,V⟩|⟨g,cap,cur,rfl,_⟩;{exact⟨ε,0,by rw[V],λh=>by omega⟩};exact⟨_,_,lc,λ_=>⟨g,lc⟩⟩
 obtain⟨Y,ca,rfl,Ai⟩:=sh T;obtain⟨sb,cb,rfl,gM⟩:=sh U;clear sh;have O:=Hd T;have z:=Hd U;have C:=Hd Ai;have B:=Hd gM;clear T U Ai gM;by_cases hlr:l.length=r.length
 .rw[<-hlr]at z B|-;by_cases V:l.length=0;{rw[V];clear O z C B;go_enter func29,ntmps29;go_wp2;refine bR 1 ?_;rw[cH];go_wp2;go_ret;exact⟨⟨_,lc⟩,qy _ _⟩};obtain⟨ga,rfl⟩:=C.o (by omega);obtain⟨gb,rfl⟩:=B.o (by omega);clear C B;go_enter func29,ntmps29;go_wp2;go_loopw [13] (λx wr=>∃j:dw,j<=l.length/\x=σ υ j/\aC w.heap.size w wr) (λx _=>l.length-(intOf x).toNat);case atStart=>exact⟨0,xzl _,lc,qy _ _⟩
  case round=>
   obtain⟨j,hj,rfl,d⟩:=hrel;by_cases iR:j<l.length
   .obtain⟨p,hp⟩:∃p,l[j]?=ζ p:=⟨_,aQ iR⟩
    obtain⟨q,hq⟩:∃q,r[j]?=ζ q:=⟨_,aQ (by omega)⟩
    obtain⟨D,E⟩:=Xb O.o (g:=ga) lc hp;rw[hlr]at z;obtain⟨G,J⟩:=Xb z.o (g:=gb) lc hq;have D:=(d.cell (xbl w _ D)).trans D;have E:=(d.cell (xbl w _ E)).trans E;have G:=(d.cell (xbl w _ G)).trans G;have J:=(d.cell (xbl w _ J)).trans J;unfold sv at D E G J;generalize (⟨p.1.toArray⟩:bn)=pk at*;generalize (⟨p.2.toArray⟩:bn)=pv at*;generalize (⟨q.1.toArray⟩:bn)=M at*;generalize (⟨q.2.toArray⟩:bn)=X at*;have Ot:(0:gJ)<=(j:gJ):=by omega
    have Hf:(j:gJ)<((l.length:dw):gJ):=by omega
    have ways:(pk.toList=M.toList/\pv.toList=X.toList)\/¬pk.toList=M.toList\/(pk.toList=M.toList/\¬pv.toList=X.toList):=by by_cases h1:pk.toList=M.toList;{by_cases h2:pv.toList=X.toList;{exact ι ⟨h1,h2⟩};exact κ (κ ⟨h1,h2⟩)};exact κ (ι h1)
    clear hp hq;rcases ways with⟨e1,e2⟩|e1|⟨e1,e2⟩
    .go_wp2;go_quiet (fail);go_wp2;go_roundw;case rel=>exact⟨j+1,by omega,lc,Below.drewN' d _⟩
     case measure=>simp[intOf];omega
    all_goals
     go_wp2;go_quiet (fail);go_wp2;go_ret;exact⟨⟨_,lc⟩,Below.drewN' d _⟩
   .obtain rfl:j=l.length:=by omega
    go_wp2;go_ret;exact⟨⟨_,lc⟩,d⟩
 .have fG:((l.length:gJ) !=r.length)=η:=by simp;omega
  clear O z C B;go_enter func29,ntmps29;go_wp2;go_ret;exact⟨⟨_,lc⟩,qy _ _⟩
end
end Go.Proofs.YtkpekiajdlolnabGreat
namespace Go.Proofs.YtkpekiajdlolnabGreat.Ph
section
open Go.Conc Go.ConcN Go.RowKit Go.Maps Go.Conc.Lib Go Sim
section
variable {N:Blocks} {kv:fo aa} {cs fw:fo bp} {w:ac} {Z:bp->ac->Prop} {b:bp} {k:fo Item} {n i j:dw} {x:dw->aa} {ops:gF Oper} {td:fo dw} {o:Oper}
theorem qg.Rn {fn:Func} {args:gF aa} (B:ops[i]?=ζ o) (q:o.dst=ζ j) (D:ah o (aS ops (lay n x))=η) (z:b.kind≠.early)
  (ev:∀w,(ae (evx n x) o).run XG.P w=.ok (.enter f args) w/\(ae (evx n x) o).events XG.P w #[]=#[]) (r:XG.P.funcs[f]?=ζ fn)
  (E:∀ρ,(∀v∈kv,VR XG.F ρ v v)->vw XG.F ρ args.toList args.toList)
  (G:rW N kv f args w R) (J:∀v w',R v w'->qg N kv cs (b.at ⟨lay n (upd x j v),[]⟩ (π ops td::k)) w' fw Z):qg N kv cs (b.at ⟨lay n x,[]⟩ (π ops (i::td)::k)) w fw Z:=by
 refine qg.call B D z ev r (λρ _ d _=>E ρ d) G λv w' C=>?_;rw[q];show qg N kv cs (b.at ⟨(lay n x).setIfInBounds j v,[]⟩ _) w' fw Z;rw[wI];exact J v w' C
theorem Jb {d:gF bV} {vs:gF aa} {q:gF ao} (B:o.op=.call {callee:=.value (.func f),args:=d,argTypes:=q}) (z:e (.func f)=.func (.func f) #[] #[]) (C:d.toList.map e=vs.toList)
  (D:∀w,(aE f vs).run prog w=.ok (.enter f vs) w/\(aE f vs).events prog w #[]=#[]):∀w,(ae e o).run XG.P w=.ok (.enter f vs) w/\(ae e o).events XG.P w #[]=#[]:=λw=>by
 have r:d.map e=vs:=by apply cT;simpa using C
 have E:ae e o=aE f vs:=by unfold ae;simp[go_sem,B,resolve,invoke,z,r]
 rw[E];exact D w
theorem Md {fn:Func} {r:dw} (h:fn.results=#[.tmp r]) (T:gF aa) (w:ac):(results fn T).runT prog w #[]=(.ok (T.getD r ai) w,#[]):=by simp[results,h,go_sem]
theorem rW.of1 {fn:Func} {args:gF aa} {r:dw} (d:blG f=θ) (E:fb f=η) (D:XG.P.funcs[f]?=ζ fn) (h:fn.results=#[.tmp r]) (q:∀v w wc,Same w wc->R v w->R v wc)
  (B:∀wc,Same w wc->aR XG.P f args wc fun|.returned v,w'=>R v w'|_,_=>kw):rW N kv f args w R:=
 rW.of d E D (λT=>⟨_,λw=>Md h T w⟩) (λρ T v w z C=>by
  have:=eD Prod.fst (Md h T w);rw[Sem.runT_fst]at this;have e:(results fn T).run XG.P w=.ok (T.getD r ai) w:=this;rw[C]at e;cases e
  exact z.Eh r) q B
end
def xL (k:gJ):gJ:=if k<=5 then 1 else if k<=9 then 2 else if k=10\/k=12 then 3 else 4
theorem jcz (w:ac) (k:gJ):aR prog 14 #[σ υ k] w λe w'=>(e=ψ (σ υ (xL k))/\w'=w):=by
 by_cases h5:k<=5;{rw[show xL k=1 by unfold xL;rw[jb h5]];exact q8w k h5};have q:ν (k<=5)=θ:=xdf h5;by_cases h9:k<=9;{have d:ν (k<=9)=η:=xdt h9;rw[show xL k=2 by unfold xL;rw[gY h5,jb h9]];clear h5 h9;go_enter func14,ntmps14;go_wp2;go_ret;exact⟨lc,lc⟩};have d:ν (k<=9)=θ:=xdf h9;by_cases nZ:k=10;{subst nZ;rw[show xL 10=3 from lc];clear h5 h9;go_enter func14,ntmps14;go_wp2;go_ret;exact⟨lc,lc⟩};by_cases oM:k=12;{subst oM;rw[show xL 12=3 from lc];clear h5 h9 nZ;go_enter func14,ntmps14;go_wp2;go_ret;exact⟨lc,lc⟩};rw[show xL k=4 by unfold xL;rw[gY h5,gY h9,gY (by omega)]];have r:ν (k=10)=θ:=xdf nZ;have z:ν (k=12)=θ:=xdf oM;have B:(k==10)=θ:=by simpa using nZ
 have C:(k==12)=θ:=by simpa using oM
 clear h5 h9 nZ oM;go_enter func14,ntmps14;go_wp2;go_ret;exact⟨lc,lc⟩
section
variable {N:Blocks} {kv:fo aa} {w:ac}
abbrev fSt:cF:=14
theorem V8 (k:gJ):rW N kv fSt #[σ υ k] w λv w'=>v=σ υ (xL k)/\Same w w':=
 rW.of1 (r:=2) lc lc func14 lc (λv w1 wc s h=>⟨h.1,h.2.trans s⟩) λwc s=>(jcz wc k).mono λe w' ⟨d,q⟩=>by subst d;subst q;exact⟨lc,s⟩
theorem XP (vs:gF aa) (w:ac):(aE fSt vs).run prog w=.ok (.enter fSt vs) w/\(aE fSt vs).events prog w #[]=#[]:=by have d:=func14;constructor<;>simp[aE,go_sem,d,Tryz.f14]
theorem qym (vs:gF aa) (w:ac):(aE fT vs).run prog w=.ok (.enter fT vs) w/\(aE fT vs).events prog w #[]=#[]:=by have d:=func15;constructor<;>simp[aE,go_sem,d,Tryz.f15]
end
abbrev fU:cF:=11
def bU:bp:=base fU
theorem kQ:blG bU.fn=η:=rfl
theorem jX:bU.kind≠.early:=by decide
noncomputable def uB:=(Tryz.f11.body).getD .skip
noncomputable def uL:=match uB with|.seq _ (.seq _ (.seq (.seq _ (.block _ (.loop c))) _))=>c|_=>.skip
noncomputable def uI:=match uL with|.seq _ (.seq _ (.seq (.block _ c) _))=>c|_=>.skip
noncomputable def U0:=match uB with|.seq a _=>rg a|_=>#[]
noncomputable def U1:=match uB with|.seq _ (.seq a _)=>rg a|_=>#[]
noncomputable def U2:=match uB with|.seq _ (.seq _ (.seq (.seq a _) _))=>rg a|_=>#[]
noncomputable def U12:=match uB with|.seq _ (.seq _ (.seq _ (.seq a _)))=>rg a|_=>#[]
noncomputable def U3:=match uL with|.seq a _=>rg a|_=>#[]
noncomputable def U11:=match uL with|.seq _ (.seq _ (.seq _ a))=>rg a|_=>#[]
noncomputable def U4:=match uI with|.seq a _=>rg a|_=>#[]
noncomputable def U5:=match uI with|.seq _ (.seq (.seq a _) _)=>rg a|_=>#[]
noncomputable def U6:=match uI with|.seq _ (.seq _ (.seq a _))=>rg a|_=>#[]
noncomputable def U7:=match uI with|.seq _ (.seq _ (.seq _ (.seq (.seq a _) _)))=>rg a|_=>#[]
noncomputable def U9:=match uI with|.seq _ (.seq _ (.seq _ (.seq _ (.seq a _))))=>rg a|_=>#[]
noncomputable def uQ7:=match uI with|.seq _ (.seq _ (.seq _ (.seq (.seq _ (.cond _ c _)) _)))=>c|_=>.skip
noncomputable def uQ9:=match uI with|.seq _ (.seq _ (.seq _ (.seq _ (.seq _ (.cond _ c _)))))=>c|_=>.skip
theorem jnw:uB=.seq (.region 0 U0 θ) (.seq (.region 1 U1 θ) (.seq (.seq (.region 2 U2 θ) (.block 0 (.loop uL))) (.seq (.region 12 U12 θ) .ret))):=rfl
theorem jey:uL=.seq (.region 3 U3 θ) (.seq (.cond (.tmp 14) .skip (.exit 0)) (.seq (.block 1 uI) (.region 11 U11 θ))):=rfl
theorem jnx:uI=.seq (.region 4 U4 θ) (.seq (.seq (.region 5 U5 θ) (.cond (.tmp 27) (.exit 1) .skip)) (.seq (.region 6 U6 θ) (.seq (.seq (.region 7 U7 θ) (.cond (.tmp 57) uQ7 .skip)) (.seq (.region 9 U9 θ) (.cond (.tmp 69) uQ9 .skip))))):=rfl
theorem q79:∀{x:dw->aa} {v:aa},x 4=v->∀w,(results Tryz.f11 (lay 72 x)).runT XG.P w #[]=(.ok v w,#[]):=λ{x v} h w=>by have:=Md (fn:=Tryz.f11) (r:=4) lc (lay 72 x) w;rw[I8 (by decide),h]at this;exact this
theorem jgo (w:ac):(isAgg 4).run prog w=.ok θ w:=by have d:=underlying4;simp[isAgg,go_sem,d]
structure F7 (n0 L:dw) (os:dw->OpV) (Wb:dw) (w0:ac) (I:dw->ac->Prop):Prop where
 idle:∀k w w',I k w->But (λ_=>kw) w w'->I k w'
 keep:∀k w,I k w->But (λb=>n0<=b) w0 w
 lack:∀k w,I k w->w.cell? ⟨Wb,3,ε⟩=ζ (χ θ)
 step:∀(k:dw) (w:ac) (N:Blocks) (kv:fo aa),k<L->I k w->(∀b,N b->b<n0)->AP N kv fT #[ξ (ζ ⟨Wb,0,ε⟩),.agg (os k).cells] w λv w'=>(∃b,v=χ b/\((os k).k=11->b=η))/\I (k+1) w'
structure UX (sl:aa) (L i Wb:dw) (x:dw->aa):Prop where
 c:x 1=σ υ 11
 w:x 5=ξ (ζ ⟨Wb,0,ε⟩)
 s:x 11=sl
 l:x 12=σ υ L
 i:x 13=σ υ i
theorem UX.lay {sl:aa} {Wb:dw} {x:dw->aa} (h:UX sl L i Wb x):∃y,x=upd (upd (upd (upd (upd y 13 (σ υ i)) 12 (σ υ L)) 11 sl) 5 (ξ (ζ ⟨Wb,0,ε⟩))) 1 (σ υ 11):=by obtain⟨x,rfl⟩:=ql h.c;obtain⟨x,rfl⟩:=ql (x:=x) h.w;obtain⟨x,rfl⟩:=ql (x:=x) h.s;obtain⟨x,rfl⟩:=ql (x:=x) h.l;obtain⟨x,rfl⟩:=ql (x:=x) h.i;exact⟨x,lc⟩
section
variable {N:Blocks} {cs:fo bp} {K:fo Item} {sp:gI Addr} {L cp n0 nS Wb:dw} {os:dw->OpV} {w0:ac} {I:dw->ac->Prop}
theorem F7.same (h:F7 n0 L os Wb w0 I) (s:Same w w') (i:I k w):I k w':=h.idle k w w' i (But.same' s)
theorem jii (B:F7 n0 L os Wb w0 I) (qJ:∀g,g<nS->N g) (Tm:∀g,N g->g<n0) (hS:wH nS w0 sp L os) (hn:nS<=n0) (hR:∀w',I L w'->R (σ υ (-1)) w'):
  ∀(d i:dw) (x:dw->aa) (kv:fo aa) (w:ac),d=L-i->i<=L->I i w->ξ (ζ ⟨Wb,0,ε⟩)∈kv->UX (.slice sp L cp) L i Wb x->
   qg N kv cs (bU.at ⟨lay 72 x,[]⟩ (.code uL::.inLoop uL::.inBlock 0::.code (.seq (.region 12 U12 θ) .ret)::K)) w cs (Ret fU R):=by
 have hlen:=hS.len;intro d;induction d with
 |zero=>
  intro i x kv w hd hi D C V;obtain rfl:i=L:=by omega
  obtain⟨x,rfl⟩:=V.lay;rw[jey];refine qg.seq (qg.region (qg.bq (rest:=[]) [(0,14,χ (ν ((i:gJ)<i)))] kQ jX lc (λwc=>by kernel_rfl) (qg.regionEnd (qg.seq (qg.zU (t:=θ) (by decide) (eD bL (xdf (by omega))) ?_)))));refine qg.exit (k':=.code (.seq (.region 12 U12 θ) .ret)::K) lc (qg.seq (qg.region (qg.bq (rest:=[]) [(0,4,σ υ (-1))] kQ jX lc (λwc=>by kernel_rfl) (qg.regionEnd ?_))));exact qg.NN func11 (q79 lc) (λρ=>.int _ _) λwc s=>hR _ (B.same s D)
 |succ d ih=>
  intro i x kv w hd hi D C V;have E:i<L:=by omega
  have wo:=B.keep _ _ D;obtain⟨g,X,rfl,hg,Ki,iI⟩:=hS.at' (by omega);obtain⟨x,rfl⟩:=V.lay;rw[jey];refine qg.seq (qg.region (qg.bq (rest:=[]) [(0,14,χ (ν ((i:gJ)<L)))] kQ jX lc (λwc=>by kernel_rfl) (qg.regionEnd (qg.seq (qg.zU (t:=η) (by decide) (eD bL (xdt (by omega))) (qg.skip (qg.seq (qg.block ?_))))))));rw[jnx];refine qg.seq (qg.region (qg.bq (rest:=[1,2,3,4,5]) [(0,15,σ υ i)] kQ jX lc (λwc=>by kernel_rfl) ?_));refine qg.bv kQ jX (ξ (ζ ⟨g,X+i*10,ε⟩)) lc lc (jk lc) (Pure.idx lc (xg lc) (xg lc) E) ?_;refine qg.look (l:=(os i).cells.toList) kQ jX lc lc (jk lc) (xg lc) (qJ g hg) Rq RJ (xll Ki wo.size) (λj v U=>by rw[aj];exact(xcb (wo.keep g Ki (by omega))).trans (iI i E j v U)) (λρ=>Jz _ _ ρ) ?_;change qg N kv cs (bU.at ⟨(lay 72 _).setIfInBounds 17 _,[]⟩ _) w cs _;rw[wI];refine qg.Zq kQ jX lc lc lc (jk lc) (by kernel_rfl) YB ?_;refine qg.bq (rest:=[5]) [(4,6,σ υ i)] kQ jX lc (λwc=>by kernel_rfl) ?_;refine qg.Zn (w0:=w) (z:=zOp) (l:=(os i).cells.toList) kQ jX lc lc lc (jk lc) (by decide) lc (by decide) lc (.head _) (λρ=>Jz _ _ ρ) lc YE lc lc ?_;have Tp:I i (w.alloc (.cells (os i).cells 30)):=B.idle _ _ _ D (il ((qy _ _).alloc (jg _) _));have hblk:=bB w (.cells (os i).cells 30);generalize jV:w.heap.size=ob at*;generalize w.alloc (.cells (os i).cells 30)=w1 at*;have cells:∀w',Same w1 w'->∀(j:dw) v,(os i).cells.toList[j]?=ζ v->w'.cell? ⟨ob,j,ε⟩=ζ v:=λw' s j v U=>by
   have T:w'.heap[ob]?=ζ (.cells (os i).cells 30 (0,0)):=by rw[s.heap];exact hblk
   simp only[al,T];rw[<-U,am];exact gY (by decide)
  have c0:∀w',Same w1 w'->w'.cell? ⟨ob,0,ε⟩=ζ (σ υ (os i).k):=λw' s=>cells w' s 0 _ lc;have G:dH (ζ ⟨Wb,0,ε⟩)∈dH (ζ ⟨ob,0,ε⟩)::kv:=List.mem_cons_of_mem _ C;refine qg.regionEnd (qg.seq (qg.seq (qg.region ?_)));refine qg.bq (rest:=[4,5,6,7,8,9]) [(0,18,σ υ 11),(1,19,χ η),(2,20,χ η),(3,21,ξ (ζ ⟨ob,0,ε⟩))] kQ jX lc (λwc=>by kernel_rfl) ?_;refine qg.F5 kQ jX lc lc lc (by kernel_rfl) (by decide) lc (.head _) LF (c0 _ (Same.refl _)) ?_;refine qg.Rn lc lc (by kernel_rfl) jX (Jb (vs:=#[σ υ (os i).k]) lc lc (eD (λv=>[v]) (xg lc)) (XP _)) func14 (λρ _=>.cons (.int _ _) .nil) (V8 (os i).k) ?_;rintro _ wa ⟨rfl,sa⟩;refine qg.bq (rest:=[7,8,9]) [(6,24,σ υ 11)] kQ jX lc (λwc=>by kernel_rfl) ?_;refine qg.Rn lc lc (by kernel_rfl) jX (Jb (vs:=#[σ υ 11]) lc lc (eD (λv=>[v]) (xg lc)) (XP _)) func14 (λρ _=>.cons (.int _ _) .nil) (V8 11) ?_;rintro _ wb ⟨rfl,sb⟩;replace sb:=sa.trans sb;obtain⟨q,hq⟩:∃q,xL (os i).k=q:=⟨_,lc⟩
  have hq4:q<=4:=by
   rw[<-hq];unfold xL;repeat' split
   all_goals omega
  rw[hq];refine qg.bq (rest:=[]) [(8,26,χ (ν (4<q))),(9,27,χ (ν (4<q)))] kQ jX lc (λwc=>by kernel_rfl) (qg.regionEnd (qg.zU (t:=θ) (by decide) (eD bL (xdf (by omega))) (qg.skip ?_)));refine qg.seq (qg.region ?_);refine qg.bq (rest:=[4,5,6,7,8,9,10,11,12,13,14,15,16,17]) [(0,28,σ υ 11),(1,29,χ θ),(2,30,χ θ),(3,31,ξ (ζ ⟨ob,0,ε⟩))] kQ jX lc (λwc=>by kernel_rfl) ?_;refine qg.F5 kQ jX lc lc lc (by kernel_rfl) (by decide) lc (.head _) LF (c0 _ sb) ?_;obtain⟨r,hr⟩:∃r,((os i).k==11)=r:=⟨_,lc⟩
  refine qg.bq (rest:=[7,8,9,10,11,12,13,14,15,16,17]) [(5,33,σ υ 11),(6,34,χ ((os i).k==11))] kQ jX lc (λwc=>by kernel_rfl) ?_;rw[hr]
  -- the step,and the OY end
  have Y:∀a,UX (Δ (ζ ⟨g,X,ε⟩) L cp) L i Wb a->a 7=ξ (ζ ⟨ob,0,ε⟩)->a 8=χ r->
    qg N (ξ (ζ ⟨ob,0,ε⟩)::kv) cs (bU.at ⟨lay 72 a,[]⟩ (.code (.seq (.seq (.region 7 U7 θ) (.cond (.tmp 57) uQ7 .skip)) (.seq (.region 9 U9 θ) (.cond (.tmp 69) uQ9 .skip)))::.inBlock 1::.code (.region 11 U11 θ)::.inLoop (.seq (.region 3 U3 θ) (.seq (.cond (.tmp 14) .skip (.exit 0)) (.seq (.block 1 uI) (.region 11 U11 θ))))::.inBlock 0::.code (.seq (.region 12 U12 θ) .ret)::K)) wb cs (Ret fU R):=by
   intro a O a7 a8;have last:∀(a:dw->aa) (w':ac),I (i+1) w'->UX (Δ (ζ ⟨g,X,ε⟩) L cp) L i Wb a->
     qg N (ξ (ζ ⟨ob,0,ε⟩)::kv) cs (bU.at ⟨lay 72 a,[]⟩ (.code (.seq (.region 9 U9 θ) (.cond (.tmp 69) uQ9 .skip))::.inBlock 1::.code (.region 11 U11 θ)::.inLoop (.seq (.region 3 U3 θ) (.seq (.cond (.tmp 14) .skip (.exit 0)) (.seq (.block 1 uI) (.region 11 U11 θ))))::.inBlock 0::.code (.seq (.region 12 U12 θ) .ret)::K)) w' cs (Ret fU R):=by
    intro a w' M O;obtain⟨a,rfl⟩:=O.lay;refine qg.seq (qg.region (qg.bq (rest:=[]) [(0,59,σ υ 11),(1,60,χ θ),(2,61,χ θ),(3,62,σ υ 11),(4,63,χ θ),(5,64,χ θ),(6,65,χ θ),(7,66,ai),(8,67,ai),(9,68,ai),(10,69,χ θ)] kQ jX lc (λwc=>by kernel_rfl) (qg.regionEnd (qg.zU (t:=θ) (by decide) lc (qg.skip (qg.inBlock (qg.region ?_)))))));change qg N _ cs (bU.at ⟨lay 72 _,[]⟩ (π U11 [0,1]::_)) _ cs _;refine qg.bv kQ jX (σ υ ((i:gJ)+1)) lc lc (jk lc) (Pure.add lc (xg lc) lc (by omega) (by omega)) ?_;refine qg.bq (rest:=[]) [(1,13,σ υ ((i:gJ)+1))] kQ jX lc (λwc=>by kernel_rfl) (qg.regionEnd (qg.inLoop ?_));exact ih (i+1) _ _ w' (by omega) (by omega) M G ⟨lc,lc,lc,lc,lc⟩
   obtain⟨a,rfl⟩:=O.lay;obtain⟨a,rfl⟩:=ql (x:=a) a7;obtain⟨a,rfl⟩:=ql (x:=a) a8;refine qg.seq (qg.seq (qg.region (qg.bq (rest:=[1,2,3,4,5,6,7,8,9,10,11,12]) [(0,45,ξ (ζ ⟨Wb,0,ε⟩))] kQ jX lc (λwc=>by kernel_rfl) ?_)));refine qg.jfl (l:=(os i).cells.toList) kQ jX lc lc lc (jk lc) (by decide) lc (.head _) Rq RJ (cells _ sb) ?_;refine qg.Rn lc lc (jk lc) jX (Jb (vs:=#[ξ (ζ ⟨Wb,0,ε⟩),.agg (os i).cells]) lc lc (congr (eD (λu v=>[u,v]) (xg lc)) (xg lc)) (qym _)) func15 (λρ hK=>.cons (hK _ G) (.cons (Jz _ _ ρ) .nil)) (AP.calls lc (λv w1 wc s h=>⟨h.1,B.same s h.2⟩) (B.step i wb N _ E (B.same sb Tp) Tm)) ?_;rintro _ wc ⟨⟨b,rfl,T⟩,J⟩;cases b
   .have um:r=θ:=by cases r;{rfl};exact jC (T (by simpa using hr)) (by decide)
    subst um;refine qg.bq (rest:=[8,9,10,11,12]) [(3,48,χ η),(4,49,χ η),(5,50,ξ (ζ ⟨Wb,0,ε⟩)),(6,51,ξ (ζ ⟨Wb,0,ε⟩)),(7,52,ξ (ζ ⟨Wb,3,ε⟩))] kQ jX lc (λwc=>by kernel_rfl) ?_;refine qg.F5 kQ jX lc lc lc (by kernel_rfl) (by decide) lc G jgo (B.lack _ _ J) ?_;refine qg.bq (rest:=[]) [(9,54,χ θ),(10,55,χ θ),(11,56,χ θ),(12,57,χ θ)] kQ jX lc (λwc=>by kernel_rfl) (qg.regionEnd (qg.zU (t:=θ) (by decide) lc (qg.skip ?_)));exact last _ wc J ⟨lc,lc,lc,lc,lc⟩
   .refine qg.bq (rest:=[]) [(3,48,χ θ),(4,49,χ θ),(5,50,ai),(6,51,ai),(7,52,ai),(8,53,ai),(9,54,ai),(10,55,ai),(11,56,ai),(12,57,χ θ)] kQ jX lc (λwc=>by kernel_rfl) (qg.regionEnd (qg.zU (t:=θ) (by decide) lc (qg.skip ?_)));exact last _ wc J ⟨lc,lc,lc,lc,lc⟩
  cases r;{refine qg.bq (rest:=[]) [(7,35,χ θ),(8,36,χ θ),(9,37,σ υ 11),(10,38,χ θ),(11,39,χ θ),(12,40,ai),(13,41,ai),(14,42,ai),(15,43,χ θ),(16,44,χ θ),(17,8,χ θ)] kQ jX lc (λwc=>by kernel_rfl) (qg.regionEnd ?_);exact Y _ ⟨lc,lc,lc,lc,lc⟩ lc lc};refine qg.bq (rest:=[]) [(7,35,χ η),(8,36,χ η),(9,37,ai),(10,38,ai),(11,39,ai),(12,40,ai),(13,41,ai),(14,42,ai),(15,43,ai),(16,44,χ η),(17,8,χ η)] kQ jX lc (λwc=>by kernel_rfl) (qg.regionEnd ?_);exact Y _ ⟨lc,lc,lc,lc,lc⟩ lc lc
variable {kv:fo aa} {w:ac}
theorem jdy (v u:aa) (t:gF aa):(#[v,u]++t).getD 0 ai=v/\(#[v,u]++t).getD 1 ai=u:=by constructor;{rw[aH,aK (by simp)];rfl};rw[aH,aK (by simp)];rfl
theorem qw7 {v u:aa}:aI XG.P fU #[v,u] .normal=bU.at ⟨lay 72 (λi=>(#[v,u]++aZ 70 ai).getD i ai),[]⟩ [.code uB]:=by show aI prog fU _ .normal=_;rw[enter_at _ func11 (show Tryz.f11.body=ζ uB from lc)];have d:Tryz.f11.ntmps=72:=rfl;rw[d,Bc (by simp)];rfl
def Gc (w:ac):ac:=w.alloc (ω #[Δ ε 0 0,Δ ε 0 0,Δ ε 0 0,χ θ] 36)
theorem jij (q:F7 w.heap.size L os w.heap.size w I) (z:I 0 (Gc w)) (E:∀g,g<nS->N g) (r:∀g,N g->g<w.heap.size) (C:wH nS w sp L os) (D:nS<=w.heap.size):
  AP N kv fU #[.slice sp L cp,σ υ 11] w λv w'=>v=σ υ (-1)/\But (λb=>w.heap.size<=b) w w':=λM=>by
 rw[qw7,jnw];generalize d:(λi=>(#[bP sp L cp,σ υ 11]++aZ 70 ai).getD i ai)=x;have x0:x 0=.slice sp L cp:=by rw[<-d];exact(jdy _ _ _).1
 have G:x 1=σ υ 11:=by rw[<-d];exact(jdy _ _ _).2
 clear d;obtain⟨x,rfl⟩:=ql x0;obtain⟨x,rfl⟩:=ql (x:=x) (j:=1) (v:=σ υ 11) G;refine qg.seq (qg.region (qg.bq (rest:=[]) [(0,4,σ υ 0)] kQ jX lc (λwc=>by kernel_rfl) (qg.regionEnd ?_)));refine qg.seq (qg.region (qg.bq (rest:=[1,2]) [(0,9,Θ #[Δ ε 0 0,Δ ε 0 0,Δ ε 0 0,χ θ])] kQ jX lc (λwc=>by kernel_rfl) ?_));refine qg.bbox (l:=[Δ ε 0 0,Δ ε 0 0,Δ ε 0 0,χ θ]) kQ jX lc lc lc (jk lc) (by decide) lc (λρ=>.agg (.cons (.j6 _ _) (.cons (.j6 _ _) (.cons (.j6 _ _) (.cons (.bool _) .nil))))) ?_;refine qg.bq (rest:=[]) [(2,5,ξ (ζ ⟨w.heap.size,0,ε⟩))] kQ jX lc (λwc=>by kernel_rfl) (qg.regionEnd ?_);refine qg.seq (qg.seq (qg.region (qg.bq (rest:=[]) [(0,11,.slice sp L cp),(1,12,σ υ L),(2,13,σ υ 0)] kQ jX lc (λwc=>by kernel_rfl) (qg.regionEnd (qg.block (qg.loop ?_))))));have J:But (λb=>w.heap.size<=b) w (Gc w):=il ((qy _ _).alloc (jg _) _);exact jii q E r C D (R:=λv w'=>v=σ υ (-1)/\But (λb=>w.heap.size<=b) w w') (λw' B=>⟨lc,q.keep _ _ B⟩) (L-0) 0 _ _ _ lc (xzl _) z (.head _) ⟨lc,lc,lc,lc,lc⟩
end
theorem qyj (vs:gF aa) (w:ac):(aE fM vs).run prog w=.ok (.enter fM vs) w/\(aE fM vs).events prog w #[]=#[]:=by have d:=func10;constructor<;>simp[aE,go_sem,d,Tryz.f10]
theorem q3a (vs:gF aa) (w:ac):(aE fU vs).run prog w=.ok (.enter fU vs) w/\(aE fU vs).events prog w #[]=#[]:=by have d:=func11;constructor<;>simp[aE,go_sem,d,Tryz.f11]
abbrev fR:cF:=6
theorem Eg:blG (base fR).fn=η:=rfl
theorem D9:(base fR).kind≠.early:=by decide
noncomputable def lB:=(Tryz.f6.body).getD .skip
noncomputable def L0:=match lB with|.seq a _=>rg a|_=>#[]
noncomputable def L1:=match lB with|.seq _ (.seq a _)=>rg a|_=>#[]
theorem jl3:lB=.seq (.region 0 L0 θ) (.seq (.region 1 L1 θ) .ret):=rfl
section
variable {kv:fo aa} {w:ac} {sp:gI Addr} {L cp:dw} {os:dw->OpV}
def je7 (w:ac) (L:dw) (os:dw->OpV):Prop:= ∀w1,But (λ_=>kw) w w1->L+szT os L<=262144->∃I,F7 w1.heap.size L os w1.heap.size w1 I/\I 0 (Gc w1)
theorem wH.jmp {w:ac} (h:wH w.heap.size w sp L os) (d:But (λ_=>kw) w w1):wH w.heap.size w1 sp L os:=h.but (d.mono λ_=>False.elim)
theorem jl4 (D:wH w.heap.size w sp L os) (T:je7 w L os):
  qg (λb=>b<w.heap.size) kv [] (aI XG.P fR #[.slice sp L cp] .normal) w [] (Ret fR λv w'=>v=χ η/\But (λb=>w.heap.size<=b) w w'):=by
 have V:aI XG.P fR #[.slice sp L cp] .normal=(base fR).at ⟨lay 11 (λi=>(#[bP sp L cp]++aZ 10 ai).getD i ai),[]⟩ [.code lB]:=by show aI prog fR _ .normal=_;rw[enter_at _ func6 (show Tryz.f6.body=ζ lB from lc)];have O:Tryz.f6.ntmps=11:=lc;rw[O,Bc (by simp)];rfl
 rw[V,jl3];generalize E:(λi=>(#[bP sp L cp]++aZ 10 ai).getD i ai)=x;have x0:x 0=.slice sp L cp:=by rw[<-E];exact jj2 _ _
 clear E;obtain⟨x,rfl⟩:=ql x0;have ret:∀(y:dw->aa) w',But (λb=>w.heap.size<=b) w w'->y 2=χ η->qg (λb=>b<w.heap.size) kv [] ((base fR).at ⟨lay 11 y,[]⟩ [.code .ret]) w' [] (Ret fR λv w'=>v=χ η/\But (λb=>w.heap.size<=b) w w'):=λy w' d X=>
  qg.NN func6 (λw=>by
   have:=Md (fn:=Tryz.f6) (r:=2) lc (lay 11 y) w;rw[I8 (by decide),X]at this
   exact this) (λρ=>.bool _) λwc s=>⟨lc,d.trans (But.same' s)⟩
 refine qg.seq (qg.region (qg.bq (rest:=[]) [(0,2,χ θ)] Eg D9 lc (λwc=>by kernel_rfl) (qg.regionEnd (qg.seq (qg.region ?_)))));refine qg.bq (rest:=[1,2,3,4,5,6,7,8]) [(0,3,.slice sp L cp)] Eg D9 lc (λwc=>by kernel_rfl) ?_;refine qg.jd1 Eg lc lc (jk lc) D9 (Jb (vs:=#[.slice sp L cp]) lc lc (eD (λv=>[v]) (xg lc)) (qyj _)) func10 (λρ _ h=>by cases h) (λv w1 wc s ⟨t,z,B,M⟩=>⟨t,z,B,M.trans (But.same' s)⟩) (jcu (n0:=w.heap.size) (λg q=>q) D (jg _)) ?_;rintro _ w1 ⟨t,rfl,U,d⟩;cases t;{refine qg.bq (rest:=[]) [(2,5,χ η),(3,6,χ η),(4,7,ai),(5,8,ai),(6,9,ai),(7,10,χ η),(8,2,χ η)] Eg D9 lc (λwc=>by kernel_rfl) (qg.regionEnd ?_);exact ret _ w1 (d.mono λ_=>False.elim) lc};obtain⟨I,G,C⟩:=T w1 d (U lc);refine qg.bq (rest:=[5,6,7,8]) [(2,5,χ θ),(3,6,χ θ),(4,7,.slice sp L cp)] Eg D9 lc (λwc=>by kernel_rfl) ?_;refine qg.jd1 Eg lc lc (by kernel_rfl) D9 (Jb (vs:=#[.slice sp L cp,σ υ 11]) lc lc (eD (λv=>[v,Value.int .i64 11]) (xg lc)) (q3a _)) func11 (λρ _ h=>by cases h) (λv w2 wc s ⟨z,B⟩=>⟨z,B.trans (But.same' s)⟩) (jij (nS:=w.heap.size) G C (λg q=>q) (λg q=>xll q d.size) (D.jmp d) d.size) ?_;rintro _ w2 ⟨rfl,J⟩;refine qg.bq (rest:=[]) [(6,9,χ η),(7,10,χ η),(8,2,χ η)] Eg D9 lc (λwc=>by kernel_rfl) (qg.regionEnd ?_);exact ret _ w2 ((d.mono λ_=>False.elim).trans (J.mono λb h=>xlt d.size h)) lc
end
end
section
open Go.Conc Go.ConcN Go.RowKit Go.Conc.Lib Go Sim
open Go.ChangeShapes Go.WideShapes Go.ChangeAt Go.Deep
theorem q6g:laidOutB prog=η:=by kernel_rfl
theorem q7o:ownKnob prog.godebug=ε:=by kernel_rfl
section
variable {H:Type} {enc:ao×aa->H}
theorem Yc {P:dP} {e:ao} {d:cJ H} {n:dw}:∀{l:fo (cJ H)},d∈l->n∈d.weights P e->n∈bN P e l
 |x::l,hd,hn=>by unfold bN;rcases cg.1 hd with rfl|hd;{exact bj _ hn};exact List.mem_append_right _ (Yc hd hn)
theorem jm0 {base:dw} {spare:dw->je} {held:je} {a:Addr} {x:cJ H×fo bQ} {cs:fo aa} (hc:w.cells? base a 10=ζ cs) (h:DataW.trod enc prog w base spare held n 30 cs=ζ x)
  (hw:∀m∈x.1.weights prog 30,m<=reachBytes):∃o:OpV,OpV.Ok o/\∀(j:dw) v,o.cells.toList[j]?=ζ v->w.cell? (a.add j)=ζ v:=by
 obtain⟨_,hl,iI⟩:=World.cells?_some hc;obtain⟨xs,O,_,rfl,_,Dc,q⟩:=DataW.trod_struct underlying30 h;match cs,hl with
 |[c0,c1,c2,c3,c4,c5,c6,c7,c8,c9],_=>
  have ci:prog.cellsOf 3=1:=by kernel_rfl
  have Va:prog.cellsOf 9=1:=by kernel_rfl
  have r:∀{c:aa} {y:cJ H×fo bQ},DataW.trod enc prog w base spare held O 3 [c]=ζ y->∃z:gJ,c=σ υ z/\-9223372036854775808<=z/\z<=9223372036854775807:=λ{c y} J=>by
   obtain⟨z,C,_,D⟩:=DataW.trod_int underlying3 J;have C:c=σ υ z:=by simpa using C
   have D:(ν (IntKind.i64.min<=z)&&ν (z<=IntKind.i64.max))=η:=D;simp only[bK,ky]at D;exact⟨z,C,by simpa[IntKind.min,IntKind.signed,IntKind.bits]using D.1,by simpa[IntKind.max,IntKind.signed,IntKind.bits]using D.2⟩
  have E:∀{c:aa} {y:cJ H×fo bQ},DataW.trod enc prog w base spare held O 9 [c]=ζ y->∃s:bn,c=Γ s/\y.1=.lit (.string s.data.toList):=λ{c y} J=>by obtain⟨s,C,G,_⟩:=DataW.trod_string underlying9 J;exact⟨s,by simpa using C,by rw[G]⟩
  match xs,Dc with
  |[y0,y1,y2,y3,y4,y5,y6,y7,y8,y9],_=>
   have T:=q 0 _ lc;have U:=q 1 _ lc;have V:=q 2 _ lc;have X:=q 3 _ lc;have Y:=q 4 _ lc;have t5:=q 5 _ lc;have t6:=q 6 _ lc;have t7:=q 7 _ lc;have t8:=q 8 _ lc;have t9:=q 9 _ lc;simp only[ci,Va,List.drop_succ_cons,List.drop_zero,List.take_succ_cons,List.take_zero,List.getElem?_cons_zero,List.getElem?_cons_succ]at T U V X Y t5 t6 t7 t8 t9;obtain⟨k,rfl,k1⟩:=r T;obtain⟨za,rfl,a1⟩:=r U;obtain⟨zb,rfl,b1⟩:=r V;obtain⟨zc,rfl,e1⟩:=r X;obtain⟨zd,rfl,d1⟩:=r Y;obtain⟨ze,rfl,f1⟩:=r t5;obtain⟨zf,rfl,g1⟩:=r t6;obtain⟨s,rfl,s1⟩:=E t7;obtain⟨t,rfl,u1⟩:=E t8;obtain⟨u,rfl,v1⟩:=E t9;have hr:∀m∈bE prog [3,3,3,3,3,3,3,9,9,9] [y0.1,y1.1,y2.1,y3.1,y4.1,y5.1,y6.1,y7.1,y8.1,y9.1],m<=reachBytes:=λm hm=>hw m (by
    have hu:=underlying30;show m∈bw prog 30 (.agg [y0.1,y1.1,y2.1,y3.1,y4.1,y5.1,y6.1,y7.1,y8.1,y9.1]);unfold bw;rw[hu]
    exact hm)
   have B:∀(j:dw) (d:cJ H) (b:bn),[3,3,3,3,3,3,3,9,9,9][j]?=ζ 9->[y0.1,y1.1,y2.1,y3.1,y4.1,y5.1,y6.1,y7.1,y8.1,y9.1][j]?=ζ d->d=.lit (.string b.data.toList)->b.size<=140737488355328:=λj d b C G D=>by
    have:=hr _ (DataW.weights_mem_each C G b.data.toList.length (by subst D;simp[bw]));have e:b.data.toList.length=b.size:=by simp
    unfold reachBytes at this;omega
   refine⟨⟨k,za,zb,zc,zd,ze,zf,s,t,u⟩,⟨k1,a1,b1,e1,d1,f1,g1,B 7 _ s lc lc s1,B 8 _ t lc lc u1,B 9 _ u lc lc v1⟩,λj v M=>?_⟩;have Uy:j<10:=(aq.1 M).1;rw[iI j Uy];exact M
theorem q2r {W:ac} {sp:gI Addr} {cp:dw} {base:dw} {O:cJ H} {p:fo bQ} (h0:DataW.Trod enc prog W 0 (λ_=>η) η 22 (.slice sp L cp) O p)
  (T:Value.okWide prog W .any base 22 (.slice sp L cp)) (X:(bE prog [22] [O]).all (· <=reachBytes)=η) (V:∀x∈p,x.block<W.heap.size):
  ∃os,wH W.heap.size W sp L os:=by
 obtain⟨fuel,hf⟩:=h0;have hC:prog.cellsOf 30=10:=by kernel_rfl
 have C:=underlying22;rcases open_slice C hf with⟨e,_⟩|⟨a,len,cap,m,n,D,U,e,_,hl,zJ,hm,d,r⟩;{have e:(#[bP sp L cp]:gF aa).toList=[Δ ε 0 0]:=e;simp at e;obtain⟨rfl,rfl,rfl⟩:=e;exact⟨λ_=>⟨0,0,0,0,0,0,0,⟨#[]⟩,⟨#[]⟩,⟨#[]⟩⟩,λh=>jC h (by omega),λi q=>jC q (by omega),by omega⟩}
 .have e:(#[bP sp L cp]:gF aa).toList=[.slice (ζ a) len cap]:=e;simp at e;obtain⟨rfl,rfl,rfl⟩:=e;simp only[kM]at hm;subst m;rw[hC]at d r;simp only[cj]at d;obtain⟨rfl,rfl⟩:=d;have M:a.spot=ε:=by simp only[Value.okWide,C,Cell.okWide,Cell.ok,World.has]at T;exact T.2.2.2.1
  obtain⟨g,B,J⟩:=a;have M:J=ε:=M;subst M;have Y:∀x∈bE prog [22] [.slice ((au L).map D) ((au (cp-L)).map λj=>D (L+j))],x<=reachBytes:=λx d=>by have:=bk.1 X x d;simpa using this
  have G:∀x∈bw prog 22 (.slice ((au L).map D) ((au (cp-L)).map λj=>D (L+j))),x<=reachBytes:=λx d=>Y x (by unfold bE;exact bj _ d);have E:bw prog 22 (.slice ((au L).map D) ((au (cp-L)).map λj=>D (L+j)))=(((au L).map D).length+((au (cp-L)).map λj=>D (L+j)).length)*prog.bytesOf 30::(bN prog 30 ((au L).map D)++bN prog 30 ((au (cp-L)).map λj=>D (L+j))):=by rw[bw];rw[C]
  rw[E]at G;have hlen:L<=140737488355328:=by
   have hb:prog.bytesOf 30=104:=by kernel_rfl
   have:=G _ (.head _);rw[hb]at this;simp only[cE,List.length_range]at this;unfold reachBytes at this;omega
  have key:∀i,∃o:OpV,i<L->OpV.Ok o/\∀(j:dw) v,o.cells.toList[j]?=ζ v->W.cell? ⟨g,B+i*10+j,ε⟩=ζ v:=λi=>by by_cases q:i<L;{obtain⟨gD,hc,ht⟩:=r i (by omega);obtain⟨o,h1,h2⟩:=jm0 hc ht λx d=>G x (.tail _ (bj _ (Yc (List.mem_map.2 ⟨i,aJ.2 q,lc⟩) d)));refine⟨o,λ_=>⟨h1,λj v hj=>?_⟩⟩;have:=h2 j v hj;rwa [aj,aj]at this};exact⟨⟨0,0,0,0,0,0,0,⟨#[]⟩,⟨#[]⟩,⟨#[]⟩⟩,λh=>jC h q⟩
  obtain⟨os,z⟩:=Classical.axiomOfChoice key;refine⟨os,λhL=>⟨g,B,lc,?_,?_,λi q=>(z i q).2⟩,λi q=>(z i q).1,hlen⟩;all_goals
   have uR:(MemPlace.cell g B)∈MemPlace.row ⟨g,B,ε⟩ (cp*10)++(au cp).flatMap U:=bj _ (MemPlace.mem_row.2 ⟨0,by omega,by simp⟩);exact V _ uR
theorem q6i {args:gF aa} {W:ac} {N:Blocks} {Post:aa->ac->Prop} (r:blG f=η) (C:XG.P.inits.idxOf? f=ε)
  (h:qg N [] [] (aI XG.P f args .normal) W [] (Ret f λv w'=>v=χ η/\But (λb=>W.heap.size<=b) W w')) (D:∀w',But (λb=>W.heap.size<=b) W w'->Post (χ η) w'):
  ∃M last o w' q,runNT XG.P (M+1) (solo (G (aI XG.P f args .normal) []) W) #[]=(.ended o w',q)/\runN XG.P M (solo (G (aI XG.P f args .normal) []) W)=.next last/\step XG.P last=.ended o w'/\Conc.Good XG.P Post last o w' q:=
 ja5 (ρ:=λ_ _=>kw) h (λd=>by rw[Qo,r]at d;cases d) ⟨λh _=>h.elim,λh _=>h.elim,λh=>h.elim,λ_ _=>lc,λ_ h=>h.elim⟩ (λv E=>by cases E) C
  λv w1 wc s ⟨z,B⟩=>by subst z;exact D wc (B.trans (But.same' s))
theorem q4m {t:ao} (E:prog.readableRec t=η) (D:t<prog.types.size) {W z:ac} {v:aa} {d:cJ H} {ps:fo bQ} (h:DataW.Trod enc prog W 0 (λ_=>η) η t v d ps) (C:But (λb=>W.heap.size<=b) W z) (B:∀x∈ps,x.block<W.heap.size):
  DataW.Trod enc prog z 0 (λb=>ν (b<W.heap.size)) η t v d ps:=
 WideElems.Trod_stays q6g E D h (λx r=>by
  have q:=B x r;cases x with
  |cell b o=>exact xcb (w:=W) (C.keep b q (dD.2 q))
  |map b=>exact C.keep b q (dD.2 q)) (λx r=>by simpa using B x r)
theorem q04 {W:ac} (h:But (λb=>W.heap.size<=b) W w') (d:bQ->Prop):W.keptBut w' d:=by refine⟨h.os,h.output,λi q=>?_⟩;rw[h.keep i q (dD.2 q)];split<;>simp_all
end
end
end Go.Proofs.YtkpekiajdlolnabGreat.Ph
namespace Go.Proofs
open Go.RowKit Go.Maps Go.Sort Go.Shelf
def Tryz.keysOf_ren:Go.Shelf.Ren:=⟨fun|7=>91|10=>124|n=>n,fun|23=>140|26=>9|3=>146|28=>173|0=>0|27=>172|33=>28|4=>4|n=>n,fun|n=>n⟩
theorem Tryz.keysOf:Go.Proofs.SlLaysZ.n7 prog Tryz.keysOf_ren:={
 mixed:=by kernel_rfl
 f7:=⟨Tryz.f91.name,by decide,func91.trans (eD ζ (by kernel_rfl))⟩
 f10:=⟨Tryz.f124.name,by decide,func124.trans (eD ζ (by kernel_rfl))⟩
 t0:=underlying0
 a0:=Tryz.isAgg0
 z0:=Tryz.sizeOf0
 v0:=Tryz.zeroValue0
 t4:=underlying4
 a4:=Tryz.isAgg4
 z4:=Tryz.sizeOf4
 v4:=Tryz.zeroValue4
 t23:=underlying140
 a23:=Tryz.isAgg140
 z23:=Tryz.sizeOf140
 v23:=Tryz.zeroValue140
 t26:=underlying9
 a26:=Tryz.isAgg9
 z26:=Tryz.sizeOf9
 v26:=Tryz.zeroValue9
 t27:=underlying172
 a27:=Tryz.isAgg172
 z27:=Tryz.sizeOf172
 v27:=Tryz.zeroValue172
 t28:=underlying173
 a28:=Tryz.isAgg173
 z28:=Tryz.sizeOf173
 v28:=Tryz.zeroValue173
 t33:=underlying28
 a33:=Tryz.isAgg28
 z33:=Tryz.sizeOf28
 v33:=Tryz.zeroValue28}
def Tryz.sortedOf_ren:Go.Shelf.Ren:=⟨fun|6=>90|8=>122|9=>123|11=>135|13=>137|12=>136|23=>151|24=>152|14=>142|15=>143|16=>144|17=>145|18=>146|19=>147|20=>148|21=>149|22=>150|25=>153|26=>154|27=>155|28=>156|29=>157|30=>158|31=>159|n=>n,fun|26=>9|28=>173|24=>33|0=>0|3=>3|37=>165|48=>120|50=>117|4=>4|40=>225|39=>224|45=>88|5=>5|9=>9|51=>233|55=>236|57=>238|58=>239|33=>28|n=>n,fun|n=>n⟩
theorem Tryz.sortedOf:Go.Proofs.SlLaysZ.n6 prog Tryz.sortedOf_ren:={
 mixed:=by kernel_rfl
 f6:=⟨Tryz.f90.name,by decide,func90.trans (eD ζ (by kernel_rfl))⟩
 f8:=⟨Tryz.f122.name,by decide,func122.trans (eD ζ (by kernel_rfl))⟩
 f11:=⟨Tryz.f135.name,by decide,func135.trans (eD ζ (by kernel_rfl))⟩
 t0:=underlying0
 a0:=Tryz.isAgg0
 z0:=Tryz.sizeOf0
 v0:=Tryz.zeroValue0
 t24:=underlying33
 a24:=Tryz.isAgg33
 z24:=Tryz.sizeOf33
 v24:=Tryz.zeroValue33
 t26:=underlying9
 a26:=Tryz.isAgg9
 z26:=Tryz.sizeOf9
 v26:=Tryz.zeroValue9
 t28:=underlying173
 a28:=Tryz.isAgg173
 z28:=Tryz.sizeOf173
 v28:=Tryz.zeroValue173
 i26:=by kernel_rfl}
def Tryz.sortOf_ren:Go.Shelf.Ren:=⟨fun|6=>123|8=>137|9=>136|19=>151|20=>152|21=>142|22=>143|23=>144|24=>145|25=>146|26=>147|27=>148|28=>149|29=>150|36=>153|31=>154|32=>155|37=>156|38=>157|39=>158|41=>159|n=>n,fun|27=>33|29=>9|3=>3|32=>165|26=>33|0=>0|44=>120|46=>117|4=>4|36=>225|35=>224|41=>88|5=>5|9=>9|53=>233|57=>236|63=>238|64=>239|n=>n,fun|n=>n⟩
theorem Tryz.sortOf:Go.Proofs.SlLaysM.n6 prog Tryz.sortOf_ren:={
 mixed:=by kernel_rfl
 f6:=⟨Tryz.f123.name,by decide,func123.trans (eD ζ (by kernel_rfl))⟩
 f8:=func137.trans (eD ζ (by kernel_rfl))
 f9:=⟨Tryz.f136.name,by decide,func136.trans (eD ζ (by kernel_rfl))⟩
 f19:=func151.trans (eD ζ (by kernel_rfl))
 f20:=func152.trans (eD ζ (by kernel_rfl))
 f21:=⟨Tryz.f142.name,by decide,func142.trans (eD ζ (by kernel_rfl))⟩
 f22:=⟨Tryz.f143.name,by decide,func143.trans (eD ζ (by kernel_rfl))⟩
 f23:=⟨Tryz.f144.name,by decide,func144.trans (eD ζ (by kernel_rfl))⟩
 f24:=⟨Tryz.f145.name,by decide,func145.trans (eD ζ (by kernel_rfl))⟩
 f25:=⟨Tryz.f146.name,by decide,func146.trans (eD ζ (by kernel_rfl))⟩
 f26:=⟨Tryz.f147.name,by decide,func147.trans (eD ζ (by kernel_rfl))⟩
 f27:=⟨Tryz.f148.name,by decide,func148.trans (eD ζ (by kernel_rfl))⟩
 f28:=⟨Tryz.f149.name,by decide,func149.trans (eD ζ (by kernel_rfl))⟩
 f29:=⟨Tryz.f150.name,by decide,func150.trans (eD ζ (by kernel_rfl))⟩
 f31:=func154.trans (eD ζ (by kernel_rfl))
 f32:=func155.trans (eD ζ (by kernel_rfl))
 f36:=⟨Tryz.f153.name,by decide,func153.trans (eD ζ (by kernel_rfl))⟩
 f37:=⟨Tryz.f156.name,by decide,func156.trans (eD ζ (by kernel_rfl))⟩
 f38:=⟨Tryz.f157.name,by decide,func157.trans (eD ζ (by kernel_rfl))⟩
 f39:=⟨Tryz.f158.name,by decide,func158.trans (eD ζ (by kernel_rfl))⟩
 f41:=⟨Tryz.f159.name,by decide,func159.trans (eD ζ (by kernel_rfl))⟩
 t0:=underlying0
 a0:=Tryz.isAgg0
 z0:=Tryz.sizeOf0
 v0:=Tryz.zeroValue0
 t3:=underlying3
 a3:=Tryz.isAgg3
 z3:=Tryz.sizeOf3
 v3:=Tryz.zeroValue3
 t4:=underlying4
 a4:=Tryz.isAgg4
 z4:=Tryz.sizeOf4
 v4:=Tryz.zeroValue4
 t5:=underlying5
 a5:=Tryz.isAgg5
 z5:=Tryz.sizeOf5
 v5:=Tryz.zeroValue5
 t9:=underlying9
 a9:=Tryz.isAgg9
 z9:=Tryz.sizeOf9
 v9:=Tryz.zeroValue9
 t26:=underlying33
 a26:=Tryz.isAgg33
 z26:=Tryz.sizeOf33
 v26:=Tryz.zeroValue33
 t27:=underlying33
 a27:=Tryz.isAgg33
 z27:=Tryz.sizeOf33
 v27:=Tryz.zeroValue33
 t29:=underlying9
 a29:=Tryz.isAgg9
 z29:=Tryz.sizeOf9
 v29:=Tryz.zeroValue9
 t32:=underlying165
 a32:=Tryz.isAgg165
 z32:=Tryz.sizeOf165
 v32:=Tryz.zeroValue165
 t35:=underlying224
 a35:=Tryz.isAgg224
 z35:=Tryz.sizeOf224
 v35:=Tryz.zeroValue224
 t36:=underlying225
 a36:=Tryz.isAgg225
 z36:=Tryz.sizeOf225
 v36:=Tryz.zeroValue225
 t41:=underlying88
 a41:=Tryz.isAgg88
 z41:=Tryz.sizeOf88
 v41:=Tryz.zeroValue88
 t44:=underlying120
 a44:=Tryz.isAgg120
 z44:=Tryz.sizeOf120
 v44:=Tryz.zeroValue120
 t46:=underlying117
 a46:=Tryz.isAgg117
 z46:=Tryz.sizeOf117
 v46:=Tryz.zeroValue117
 t53:=underlying233
 a53:=Tryz.isAgg233
 z53:=Tryz.sizeOf233
 v53:=Tryz.zeroValue233
 t57:=underlying236
 a57:=Tryz.isAgg236
 z57:=Tryz.sizeOf236
 v57:=Tryz.zeroValue236
 t63:=underlying238
 a63:=Tryz.isAgg238
 z63:=Tryz.sizeOf238
 v63:=Tryz.zeroValue238
 t64:=underlying239
 a64:=Tryz.isAgg239
 z64:=Tryz.sizeOf239
 v64:=Tryz.zeroValue239}
theorem Tryz.sorts_of (m:dw):AnyZ.SortsIn prog Tryz.sortedOf_ren Fence.wide m:=
 ⟨λblk off cap r W q hblk d=>callsIn_wide.2 (AnyM.slices_Sort_string Tryz.sortOf blk off cap r W q hblk d),
  λp cap W=>callsIn_wide.2 (AnyM.slices_Sort_string_none Tryz.sortOf p cap W)⟩
theorem Tryz.maps_keys (mb:gI dw) (W:ac):aR prog 91 #[.map mb] W λe w'=>e=ψ (.func (.func 124) #[] #[ξ (ζ ⟨W.heap.size,0,ε⟩)])/\w'=W.alloc (ω #[.map mb] 140):=
 callsIn_wide.1 (AnyZ.keys_in Tryz.keysOf Fence.wide 5 trivial lc mb W)
theorem Tryz.slices_sorted {H:Type} (b z:dw) (d:cJ H) (R:aa->gI (cJ H×fo bQ)) (w:ac) (r:w.ownsMap prog 9 R b z d) (D:Maps.size d<=bm) (T:Maps.size d*16<=140737488355328):
  aR prog 90 #[.func (.func 124) #[] #[ξ (ζ ⟨w.heap.size,0,ε⟩)]] (w.alloc (ω #[.map (ζ b)] 140)) λe w'=>∃(v:aa) (q:fo (fo gU)),e=ψ v/\q.Perm (strKeys d)/\
   w'.ownsRow (w.alloc (ω #[.map (ζ b)] 140)).heap.size 9 1 v q.length ((q.mergeSort (λx y=>ν (x<=y))).map encStr)/\(v=Δ ε 0 0↔q=[])/\aC (w.alloc (ω #[.map (ζ b)] 140)).heap.size (w.alloc (ω #[.map (ζ b)] 140)) w':=by
 refine(callsIn_wide (n:=5)).1 ?_;have G:=r.lt;have C:SeqGives Fence.wide 2 prog 124 #[ξ (ζ ⟨w.heap.size,0,ε⟩)] encStr (λq=>q.Perm (strKeys d)) (Maps.size d) (w.alloc (ω #[.map (ζ b)] 140)):=
  AnyZ.keys_gives (ρ:=Tryz.keysOf_ren) {Tryz.keysOf with} Fence.wide _ trivial lc (by omega) w.heap.size b z d _ (by simp) (by simp) (by
   obtain⟨E,clock,M,B,O,J⟩:=r
   exact⟨E,clock,(Below.heap_alloc _ _ b G).trans M,B,O,J⟩)
 exact AnyZ.sorted_in Tryz.sortedOf Fence.wide 5 trivial trivial trivial trivial lc (by omega) (Tryz.sorts_of _) (enters_of func123 (by kernel_rfl) lc) 124 #[ξ (ζ ⟨w.heap.size,0,ε⟩)] trivial (enters_of func124 (by kernel_rfl) lc) _ _ D T _ C
end Go.Proofs
namespace Go.Proofs.YtkpekiajdlolnabGreat
section
open Go.RowKit Go.Maps Go.Sort
theorem jbf (L:KV):strKeys (DM L)=L.map (·.1):=by show List.map _ (List.map _ L)=_;rw[List.map_map];rfl
theorem jj3 (a b:Bs):dy a b=ν (a<b):=by rw[<-Bj,bytesLess_eq]
theorem qvv {L:KV} (h:yh L) {q:fo Bs} (r:q.Perm (L.map (·.1))):q.mergeSort (λx y=>ν (x<=y))=L.map (·.1):=by rw[mergeSort_of_perm r];refine List.mergeSort_of_pairwise ?_;rw[di];refine List.Pairwise.imp ?_ h;intro a b d;rw[jj3]at d;exact xdt (List.le_of_lt (iO d))
theorem q5q {L:KV} (z:zk w mb L) (s:bn) (B:s.size<=bm):(Instr.lookup 140 (.map (ζ mb)) (Γ s) θ).run prog w=.ok (Θ #[sv ((jh L s.data.toList).getD [])]) w:=by
 have r:=z;obtain⟨v,ps,q,d⟩:=r.lookup (string_keyed underlying9) underlying140 (Zx w) (zd:=ev []) (zp:=[]) lc (LP s B);rw[WO]at d;have:Rv v=ζ (ev ((jh L s.data.toList).getD []),ps):=by rw[d];cases jh L s.data.toList<;>rfl
 rw[q,Zv this]
theorem Xp (pv:bn) (w:ac):(Instr.field 146 (Θ #[Γ pv]) 0).run prog w=.ok (Γ pv) w:=by kernel_rfl
theorem jl2 {L:KV} (h:yh L) {p:Bs×Bs} (d:L[j]?=ζ p):jh L p.1=ζ p.2:=by
 have r:p∈L:=bi d;clear d;unfold jh;induction L with
 |nil=>cases r
 |cons q L ih=>obtain⟨z,B⟩:=List.pairwise_cons.1 h;rw[List.find?_cons];rcases cg.1 r with rfl|hm;{simp};rw[Ls (z p hm)];exact ih B hm
def QA (w:ac) (L:KV) (e:Ending) (w':ac):Prop:= ∃v,e=ψ v/\yx w' w.heap.size v L/\aC w.heap.size w w'
theorem Q8 {L:KV} {p:Bs×Bs} (f:Bs×Bs->je) (q:L[j]?=ζ p):(L.take (j+1)).filter f=(L.take j).filter f++(if f p then[p]else[]):=by obtain⟨d,rfl⟩:=aq.1 q;rw[aO d,List.filter_append,List.filter_cons,List.filter_nil]
section
variable {w:ac} {db mb:dw} {L:KV}
structure PrW (W:ac) (db mb:dw) (L:KV) (s t:Bs) (j:dw) (out:aa) (w:ac):Prop where
 row:yx w W.heap.size out ((L.take j).filter (inB s t))
 below:aC W.heap.size W w
theorem PrW.app {W:ac} {s t:Bs} {out:aa} {p:Bs×Bs} (h:PrW W db mb L s t j out w) (B:L[j]?=ζ p) (D:inB s t p=η) (d:aC W.heap.size W w1) (q:w1.ownsRow W.heap.size 74 2 out ((L.take j).filter (inB s t)).length (flat ((L.take j).filter (inB s t)))) (z:w1.grownBy w2 out.ownBlock)
  (C:w2.ownsRow W.heap.size 74 2 v' (((L.take j).filter (inB s t)).length+1) (flat ((L.take j).filter (inB s t))++[sv p.1,sv p.2])) (r:lu w2 v'):PrW W db mb L s t (j+1) v' w2:=by
 refine⟨?_,xk d z q (jg _) d.size⟩;rw[Q8 _ B,D,jb lc];exact Bh C r (jg _) (by rw[Jv];rfl)
theorem PrW.skip {W:ac} {s t:Bs} {out:aa} {p:Bs×Bs} (h:PrW W db mb L s t j out w) (d:L[j]?=ζ p) (q:inB s t p=θ):PrW W db mb L s t (j+1) out w:=by refine⟨?_,h.below⟩;rw[Q8 _ d,q];simpa using h.row
theorem sorted_at (M:zk w mb L) (T:yh L) (U:L.length<=16777216):
  aR prog 90 #[.func (.func 124) #[] #[ξ (ζ ⟨w.heap.size,0,ε⟩)]] (w.alloc (ω #[.map (ζ mb)] 140)) λe w'=>
   ((L=[]/\e=ψ (Δ ε 0 0))\/∃d cap,L≠[]/\e=ψ (Δ (ζ ⟨d,0,ε⟩) L.length cap)/\∀j (p:Bs×Bs),L[j]?=ζ p->w'.cell? ⟨d,j,ε⟩=ζ (sv p.1))/\aC w.heap.size w w':=by
 refine(Tryz.slices_sorted mb L.length (DM L) Rv w M (by rw[L9];unfold bm;omega) (by rw[L9];omega)).mono ?_;rintro e w' ⟨kv,B,rfl,q,r,O,G⟩;have C:aC w.heap.size w w':=((qy _ w).alloc (jg _) _).trans (G.mono (by simp));rw[jbf]at q;have hlen:B.length=L.length:=by rw[q.length_eq,cE]
 rw[qvv T q]at r;refine⟨?_,C⟩;by_cases he:L=[];{have:B=[]:=aV (by rw[hlen,he];rfl);exact ι ⟨he,by rw[O.2 this]⟩}
 .rcases r.2 with⟨_,V⟩|⟨d,cap,cur,z,_⟩;{exact jC (aV (by omega)) he}
  .refine κ ⟨d,cap,he,by rw[z,hlen],λj p J=>?_⟩;have D:((L.map (·.1)).map encStr)[j]?=ζ (sv p.1):=by rw[dk,dk,J];rfl
   have E:=r.cells (g:=d) (by rw[z];rfl) _ _ D;rwa [aj,az]at E
theorem q2a (B:w.cell? ⟨db,0,ε⟩=ζ (.map (ζ mb))) (q:zk w mb []) (s t:bn):
  aR prog 56 #[ξ (ζ ⟨db,0,ε⟩),Γ s,Γ t] w (QA w []):=by
 have z:=Hd (sorted_at q List.Pairwise.nil (by decide));clear q;go_enter func56,ntmps56;go_wp2_with (first
  |(go_at_call 91;refine(Tryz.maps_keys _ _).mono ?_;rintro e w' ⟨rfl,rfl⟩)
  |(go_at_call 90;refine(z.mono λe w' h=>(show(e=ψ (Δ ε 0 0))/\aC w.heap.size w w' from⟨h.1.elim (·.2) (λ⟨_,_,h,_⟩=>(h lc).elim),h.2⟩)).mono ?_;rintro e w2 ⟨rfl,d⟩;have r:=Hd d;clear d))
 refine bR 1 ?_;rw[cH];go_wp2;go_ret;exact⟨_,lc,⟨aP _ _ _ _,lu.nil _⟩,r.o⟩
theorem qx0 (fG:L≠[]) (hd:w.cell? ⟨db,0,ε⟩=ζ (.map (ζ mb))) (Y:zk w mb L) (kU:yh L) (hL:L.length<=16777216) (kG:∀p∈L,p.1.length<=bm) (s t:bn):
  aR prog 56 #[ξ (ζ ⟨db,0,ε⟩),Γ s,Γ t] w (QA w (L.filter (inB s.data.toList t.data.toList))):=by
 have HS:=Hd (sorted_at Y kU hL);have HM:=Hd Y;have HR:=Hd kU;have HK:=Hd kG;have HN:=Hd fG;clear Y kU kG fG;go_enter func56,ntmps56;go_wp2_with (first
  |(go_at_call 91;refine(Tryz.maps_keys _ _).mono ?_;rintro e w' ⟨rfl,rfl⟩)
  |(go_at_call 90;refine(HS.mono λe w' h=>(show(∃M cap,e=ψ (Δ (ζ ⟨M,0,ε⟩) L.length cap)/\∀j (p:Bs×Bs),L[j]?=ζ p->w'.cell? ⟨M,j,ε⟩=ζ (sv p.1))/\aC w.heap.size w w' from⟨h.1.elim (λh=>(HN.o h.1).elim) (λ⟨M,cap,_,h⟩=>⟨M,cap,h⟩),h.2⟩)).mono ?_;rintro e w2 ⟨⟨M,cap,rfl,B⟩,gB⟩;have HC:=Hd B;have E:=Hd gB;clear B gB))
 go_loopw [7,17] (λout i wr=>∃j:dw,j<=L.length/\i=σ υ j/\Hid (PrW w2 db mb L s.data.toList t.data.toList j out wr)) (λ_ i _=>L.length-(intOf i).toNat);case atStart=>exact⟨0,xzl _,lc,Hd ⟨⟨aP _ _ _ _,lu.nil _⟩,qy _ _⟩⟩
 case round=>
  obtain⟨j,hj,rfl,d⟩:=hrel;have KQ:Hid (((L.take j).filter (inB s.data.toList t.data.toList)).length+1<=1073741824):=by have h1:=bh (inB s.data.toList t.data.toList) (L.take j);rw[ay]at h1;show _<=_;omega
  by_cases iR:j<L.length
  .obtain⟨p,q⟩:∃p,L[j]?=ζ p:=⟨_,aQ iR⟩
   have U:=HC.o j p q;have B:=(d.below.cell (xbl _ _ U)).trans U;have vL:aC w.heap.size w wr:=E.trans (d.below.mono E.size);have hdr:=(vL.cell (xbl _ _ hd)).trans hd;have uR:p∈L:=bi q;have T:=q5q (HM.block (vL.block mb HM.lt)) ⟨p.1.toArray⟩ (by have:=HK.o p uR;simpa[ByteArray.size]using this);rw[show(⟨p.1.toArray⟩:bn).data.toList=p.1 by simp,jl2 HR.o q,Option.getD_some]at T;have e1:aD (⟨p.1.toArray⟩:bn).toList s.toList=dy p.1 s.data.toList:=by rw[Bj,aw,aw]
   have e2:aD (⟨p.1.toArray⟩:bn).toList t.toList=dy p.1 t.data.toList:=by rw[Bj,aw,aw]
   have e3:t.toList.isEmpty=t.data.toList.isEmpty:=by rw[aw]
   have z:inB s.data.toList t.data.toList p=(!aD (⟨p.1.toArray⟩:bn).toList s.toList&&(t.toList.isEmpty||aD (⟨p.1.toArray⟩:bn).toList t.toList)):=by rw[e1,e2,e3];rfl
   clear U vL uR e1 e2 e3;cases g1:aD (⟨p.1.toArray⟩:bn).toList s.toList
   .cases g2:t.toList.isEmpty
    .cases g3:aD (⟨p.1.toArray⟩:bn).toList t.toList
     .have r:inB s.data.toList t.data.toList p=θ:=by rw[z,g1,g2,g3];rfl
      clear z;have wU:=Hd (d.skip q r);unfold sv at B T;generalize (⟨p.1.toArray⟩:bn)=pk at*;generalize (⟨p.2.toArray⟩:bn)=pv at*;clear r q;go_wp2;go_roundw;case rel=>exact⟨j+1,by omega,lc,wU.o⟩
      case measure=>simp[intOf];omega
     .have r:inB s.data.toList t.data.toList p=η:=by rw[z,g1,g2,g3];rfl
      clear z;have D:=Hd (λv' w1 C=>d.app (v':=v') (w1:=w1) (w2:=C) q r);unfold sv at D B T;generalize (⟨p.1.toArray⟩:bn)=pk at*;generalize (⟨p.2.toArray⟩:bn)=pv at*;clear r q;have X:=Xp pv;go_wp2_with (at_builtin;refine yu (v:=u7) lc (.tmp 33) (.tmp 43) lc lc lc (d.row.1.alloc _) (d.row.2.alloc _) (Src.one wr pk pv _) KQ.o (xlt d.below.size (by simp)) ?_;intro v3 C G O J;have V:=Hd (D.out v3 _ C (d.below.alloc d.below.size _) (d.row.1.alloc _) J G O);clear G O J)
      go_roundw;case rel=>exact⟨j+1,by omega,lc,V⟩
      case measure=>simp[intOf];omega
    .have r:inB s.data.toList t.data.toList p=η:=by rw[z,g1,g2];rfl
     clear z;have D:=Hd (λv' w1 C=>d.app (v':=v') (w1:=w1) (w2:=C) q r);unfold sv at D B T;generalize (⟨p.1.toArray⟩:bn)=pk at*;generalize (⟨p.2.toArray⟩:bn)=pv at*;clear r q;have X:=Xp pv;go_wp2_with (at_builtin;refine yu (v:=u7) lc (.tmp 33) (.tmp 43) lc lc lc (d.row.1.alloc _) (d.row.2.alloc _) (Src.one wr pk pv _) KQ.o (xlt d.below.size (by simp)) ?_;intro v3 C G O J;have V:=Hd (D.out v3 _ C (d.below.alloc d.below.size _) (d.row.1.alloc _) J G O);clear G O J)
     go_roundw;case rel=>exact⟨j+1,by omega,lc,V⟩
     case measure=>simp[intOf];omega
   .have r:inB s.data.toList t.data.toList p=θ:=by rw[z,g1];rfl
    clear z;have wU:=Hd (d.skip q r);unfold sv at B T;generalize (⟨p.1.toArray⟩:bn)=pk at*;generalize (⟨p.2.toArray⟩:bn)=pv at*;clear r q;go_wp2;go_roundw;case rel=>exact⟨j+1,by omega,lc,wU.o⟩
    case measure=>simp[intOf];omega
  .obtain rfl:j=L.length:=by omega
   have HE:=Hd d.row;rw[cA]at HE;go_wp2;go_ret;exact⟨_,lc,Bh HE.1 HE.2 E.size lc,E.trans (d.below.mono E.size)⟩
theorem VP (d:w.cell? ⟨db,0,ε⟩=ζ (.map (ζ mb))) (q:zk w mb L) (B:yh L) (r:L.length<=16777216) (z:∀p∈L,p.1.length<=bm) (s t:bn):
  aR prog 56 #[ξ (ζ ⟨db,0,ε⟩),Γ s,Γ t] w (QA w (L.filter (inB s.data.toList t.data.toList))):=by
 by_cases fG:L=[];{subst fG;exact q2a d q s t};exact qx0 fG d q B r z s t
end
end
section
open Go.RowKit Go.Maps
def cat (L:dw->KV) (f:Bs×Bs->je):dw->KV
 |0=>[]
 |i+1=>cat L f i++(L i).filter f
def zi (L:dw->KV) (f:Bs×Bs->je) (most:dw) (i j:dw):KV:=(cat L f i++((L i).take j).filter f).take most
theorem QV {L:dw->KV} {f:Bs×Bs->je}:zi L f most i (L i).length=zi L f most (i+1) 0:=by unfold zi;rw[cA];simp[cat]
theorem Bv {L:dw->KV} {f:Bs×Bs->je} {p:Bs×Bs} (q:(L i)[j]?=ζ p):
  zi L f most i (j+1)=if f p&&ν ((zi L f most i j).length<most)then zi L f most i j++[p]else zi L f most i j:=by
 unfold zi;rw[Q8 f q];cases hf:f p;{simp};simp only[kM,bO,ky];rw[<-bZ];generalize cat L f i++List.filter f (List.take j (L i))=X;split;{rename_i d;rw[ay]at d;rw[aX (by simp;omega),aX (by omega)]};rename_i r;rw[ay]at r;rw[List.take_append_of_le_length (by omega)]
theorem Zm {L:dw->KV} {f:Bs×Bs->je} (h:∀i,i<4->(L i).length<=16777216):∀i,i<=4->(cat L f i).length<=i*16777216
 |0,_=>by simp[cat]
 |i+1,hi=>by have:=Zm (f:=f) h i (by omega);have d:=bh f (L i);have q:=h i (by omega);simp only[cat,aB];omega
theorem qyh {L:dw->KV} {f:Bs×Bs->je} (h:∀i,i<4->(L i).length<=16777216) (q:i<4):(zi L f most i j).length<=67108864:=by unfold zi;have:=Zm (f:=f) h i (by omega);have d:=bh f ((L i).take j);have r:=h i q;rw[ay]at d;rw[ay,aB];omega
def q0s (w:ac) (l:KV) (e:Ending) (w':ac):Prop:= ∃v,e=ψ (ο #[v,σ υ 0])/\yx w' w.heap.size v l/\aC w.heap.size w w'
structure ScW (W:ac) (ml sb:dw) (lv:dw->aa) (mp:dw->gI Addr) (L:dw->KV) (f:Bs×Bs->je) (most i j:dw) (out:aa) (w:ac):Prop where
 row:yx w W.heap.size out (zi L f most i j)
 below:aC W.heap.size W w
 mdl:Mdl w ml sb lv mp L
section
variable {w:ac} {ml sb:dw} {lv:dw->aa} {mp:dw->gI Addr} {L:dw->KV} {f:Bs×Bs->je} {most i j:dw} {out:aa}
theorem ScW.alloc {W:ac} (h:ScW W ml sb lv mp L f most i j out w) (o:Obj):ScW W ml sb lv mp L f most i j out (w.alloc o):=
 ⟨⟨h.row.1.alloc o,h.row.2.alloc o⟩,h.below.alloc h.below.size o,h.mdl.below ((qy _ _).alloc (jg _) o)⟩
theorem ScW.next {W:ac} (h:ScW W ml sb lv mp L f most i (L i).length out w):ScW W ml sb lv mp L f most (i+1) 0 out w:=⟨QV▸h.row,h.below,h.mdl⟩
theorem ScW.skip {W:ac} (h:ScW W ml sb lv mp L f most i j out w) {p:Bs×Bs} (q:(L i)[j]?=ζ p) (d:(f p&&ν ((zi L f most i j).length<most))=θ):ScW W ml sb lv mp L f most i (j+1) out w:=
 ⟨by rw[Bv q,d];exact h.row,h.below,h.mdl⟩
theorem ScW.app {W:ac} (h:ScW W ml sb lv mp L f most i j out w) {p:Bs×Bs} (B:(L i)[j]?=ζ p) (q:(f p&&ν ((zi L f most i j).length<most))=η) (z:w.grownBy w2 out.ownBlock)
  (D:ml<W.heap.size) (hold:Mdl W ml sb lv mp L)
  (C:w2.ownsRow W.heap.size 74 2 v' ((zi L f most i j).length+1) (flat (zi L f most i j)++[sv p.1,sv p.2])) (r:lu w2 v'):ScW W ml sb lv mp L f most i (j+1) v' w2:=by
 have d:=xk h.below z h.row.1 (jg _) h.below.size;refine⟨?_,d,hold.below d⟩;rw[Bv B,q,jb lc];exact Bh C r (jg _) (by rw[Jv];rfl)
theorem Src.ZM (w:ac) (o:Obj) (a b:bn) (ty:ao):Src ((w.alloc o).alloc (ω #[Γ a,Γ b] ty)) (ζ ⟨w.heap.size+1,0,ε⟩) 1 [Γ a,Γ b]:=by
 have h:=Src.one (w.alloc o) a b ty;have e:(w.alloc o).heap.size=w.heap.size+1:=by simp
 rwa [e]at h
theorem XD {w:ac} {base:dw} {v:aa} (h:w.ownsRow base 74 2 v n xs):∃q cp,v=.slice q n cp:=by rcases h.2 with⟨rfl,d⟩|⟨g,cap,cur,rfl,_⟩;{exact⟨ε,0,by rw[d]⟩};exact⟨_,_,lc⟩
theorem q8d (s t:bn) (m:gJ) (d:m<0):aR prog 28 #[ξ (ζ ⟨ml,0,ε⟩),Γ s,Γ t,σ υ m] w λe w'=>e=ψ (ο #[Δ ε 0 0,σ υ 7])/\w'=w:=by have q:ν (m<0)=η:=xdt d;go_enter func28,ntmps28;go_wp2;go_ret2;exact⟨lc,lc⟩
theorem q2m (hm:Mdl w ml sb lv mp L) (hL:∀i,i<4->(L i).length<=16777216) (s t:bn) (Ef:most<=9223372036854775807):
  aR prog 28 #[ξ (ζ ⟨ml,0,ε⟩),Γ s,Γ t,σ υ most] w (q0s w ((cat L (inB s.data.toList t.data.toList) 4).take most)):=by
 have g0:ν ((most:gJ)<0)=θ:=by simp
 obtain⟨cap,hs⟩:=hm.s;have HM:=Hd hm;have HL:=Hd hL;have HML:=Hd hm.lts.1;clear hm hL;obtain⟨f,hf⟩:∃f,inB s.data.toList t.data.toList=f:=⟨_,lc⟩
 rw[hf];have HF:=Hd hf;clear hf;go_enter func28,ntmps28;go_wp2;go_loopw [10,22] (λout x wr=>∃i:dw,i<=4/\x=σ υ i/\∃M n cp,out=.slice M n cp/\Hid (n=(zi L f most i 0).length/\ScW w ml sb lv mp L f most i 0 (.slice M n cp) wr)) (λ_ x _=>4-(intOf x).toNat);case atStart=>exact⟨0,by omega,lc,ε,0,0,lc,Hd ⟨by simp[zi,cat],⟨by simpa[zi,cat,Ad]using aP w w.heap.size 74 2,lu.nil _⟩,qy _ _,HM.o⟩⟩
 case round=>
  obtain⟨i,hi,rfl,M,n,cp,rfl,T⟩:=hrel;by_cases rG:i<4
  .obtain⟨c1,c2,_⟩:=T.2.mdl.cl rG;obtain⟨o,c0⟩:=T.2.mdl.owner rG;rcases(T.2.mdl.r i rG).1.2 with⟨Cc,hz⟩|⟨g,gc,cur,hv,_⟩
   .rw[Cc]at c1;have HX:=Hd (λ(o:Obj)=>(show ScW w ml sb lv mp L f most i (L i).length (.slice M n cp) _ from hz▸T.2.alloc o).next);have ng:Hid (zi L f most i 0=zi L f most (i+1) 0):=by rw[<-QV,hz];rfl
    clear Cc hz;go_wp2;refine bR 1 ?_;rw[cH];go_wp2;go_roundw;case rel=>exact⟨i+1,by omega,lc,M,n,cp,lc,Hd ⟨by rw[<-ng.o];exact T.1,HX.o _⟩⟩
    case measure=>simp[intOf];omega
   .rw[hv]at c1;have HV:=Hd hv;have HLi:=HL.o i rG;clear hv;go_wp2;go_loopw [10,29] (λout x wr2=>∃j:dw,j<=(L i).length/\x=σ υ j/\∃M n cp,out=.slice M n cp/\Hid (n=(zi L f most i j).length/\ScW w ml sb lv mp L f most i j (.slice M n cp) wr2)) (λ_ x _=>(L i).length-(intOf x).toNat);case atStart=>exact⟨0,by omega,lc,M,n,cp,lc,Hd ⟨T.1,T.2.alloc _⟩⟩
    case round=>
     obtain⟨j,hj,rfl,G,E,J,rfl,d⟩:=hrel;have KQ:Hid ((zi L f most i j).length+1<=1073741824):=by have:=qyh (f:=f) (most:=most) (j:=j) HL.o rG;show _<=_;omega
     by_cases iR:j<(L i).length
     .obtain⟨p,hp⟩:∃p,(L i)[j]?=ζ p:=⟨_,aQ iR⟩
      obtain⟨q1,q2⟩:=flat_get (L i) j p hp;have d1:=(d.2.mdl.r i rG).1.cells (g:=g) (by rw[HV.o];rfl) _ _ q1;have d2:=(d.2.mdl.r i rG).1.cells (g:=g) (by rw[HV.o];rfl) _ _ q2;rw[aj,az]at d1 d2;have D:=Hd hp;obtain⟨pk,e1⟩:∃b:bn,b.data.toList=p.1:=⟨⟨p.1.toArray⟩,by simp⟩
      obtain⟨pv,e2⟩:∃b:bn,b.data.toList=p.2:=⟨⟨p.2.toArray⟩,by simp⟩
      rw[qx e1]at d1;rw[qx e2]at d2;have Nw:=Hd (aF e1 e2);have C:f p=(!aD pk.toList s.toList&&(t.toList.isEmpty||aD pk.toList t.toList)):=by rw[<-HF.o,Bj,Bj,aw,aw,aw,e1];rfl
      clear q1 q2 hp e1 e2;cases g1:aD pk.toList s.toList
      .by_cases eZ:E<most
       .have g4:ν ((E:gJ)<(most:gJ))=η:=by simp;omega
        cases g2:t.toList.isEmpty
        .cases g3:aD pk.toList t.toList
         .have q:f p=θ:=by rw[C,g1,g2,g3];rfl
          clear C;have B:(f p&&ν ((zi L f most i j).length<most))=θ:=by rw[q];rfl
          have O:=Hd (λo=>(d.2.alloc o).skip D.o B);have z:=Hd (Bv (most:=most) (f:=f) D.o);rw[B]at z;clear B q;go_wp2;go_roundw;case rel=>exact⟨j+1,by omega,lc,G,E,J,lc,Hd ⟨by rw[z.o];exact d.1,O.o _⟩⟩
          case measure=>simp[intOf];omega
         .have q:f p=η:=by rw[C,g1,g2,g3];rfl
          clear C;have U:(f p&&ν ((zi L f most i j).length<most))=η:=by simp only[q,bO];exact xdt (by rw[<-d.1];exact eZ)
          have AO:=Hd (λ(v':aa) (w1 w2:ac) (h:ScW w ml sb lv mp L f most i j (.slice G E J) w1)=>h.app (v':=v') (w2:=w2) D.o U);have z:=Hd (Bv (most:=most) (f:=f) D.o);rw[U]at z;have KH:=Hd (aF (qx Nw.out.1) (qx Nw.out.2));clear U q;go_wp2_with (at_builtin;refine yu (v:=.slice G E J) lc (.tmp 53) (.tmp 55) lc lc lc ((d.2.alloc _).row.1.alloc _) ((d.2.alloc _).row.2.alloc _) (Src.ZM _ _ pk pv _) KQ.o (xlt d.2.below.size (by simp;omega)) ?_;intro v3 w3 V rT jQ;obtain⟨rO,sI,X⟩:=XD V;have Y:=Hd (AO.out v3 _ w3 ((d.2.alloc _).alloc _) jQ HML.o HM.o (by rw[KH.1,KH.2];exact V) rT);rw[X]at Y;rw[X];clear V rT jQ X)
          go_roundw;case rel=>exact⟨_,_,_,⟨j+1,by omega,lc,rO,_,sI,lc,Hd ⟨by rw[z.o];simp,Y.o⟩⟩,lc,lc,lc⟩
          case measure=>simp[intOf];omega
        .have q:f p=η:=by rw[C,g1,g2];rfl
         clear C;have U:(f p&&ν ((zi L f most i j).length<most))=η:=by simp only[q,bO];exact xdt (by rw[<-d.1];exact eZ)
         have AO:=Hd (λ(v':aa) (w1 w2:ac) (h:ScW w ml sb lv mp L f most i j (.slice G E J) w1)=>h.app (v':=v') (w2:=w2) D.o U);have z:=Hd (Bv (most:=most) (f:=f) D.o);rw[U]at z;have KH:=Hd (aF (qx Nw.out.1) (qx Nw.out.2));clear U q;go_wp2_with (at_builtin;refine yu (v:=.slice G E J) lc (.tmp 53) (.tmp 55) lc lc lc ((d.2.alloc _).row.1.alloc _) ((d.2.alloc _).row.2.alloc _) (Src.ZM _ _ pk pv _) KQ.o (xlt d.2.below.size (by simp;omega)) ?_;intro v3 w3 V rT jQ;obtain⟨rO,sI,X⟩:=XD V;have Y:=Hd (AO.out v3 _ w3 ((d.2.alloc _).alloc _) jQ HML.o HM.o (by rw[KH.1,KH.2];exact V) rT);rw[X]at Y;rw[X];clear V rT jQ X)
         go_roundw;case rel=>exact⟨_,_,_,⟨j+1,by omega,lc,rO,_,sI,lc,Hd ⟨by rw[z.o];simp,Y.o⟩⟩,lc,lc,lc⟩
         case measure=>simp[intOf];omega
       .have g4:ν ((E:gJ)<(most:gJ))=θ:=by simp;omega
        cases g2:t.toList.isEmpty
        .cases g3:aD pk.toList t.toList
         .have q:f p=θ:=by rw[C,g1,g2,g3];rfl
          clear C;have B:(f p&&ν ((zi L f most i j).length<most))=θ:=by rw[q];rfl
          have O:=Hd (λo=>(d.2.alloc o).skip D.o B);have z:=Hd (Bv (most:=most) (f:=f) D.o);rw[B]at z;clear B q;go_wp2;go_roundw;case rel=>exact⟨j+1,by omega,lc,G,E,J,lc,Hd ⟨by rw[z.o];exact d.1,O.o _⟩⟩
          case measure=>simp[intOf];omega
         .have q:f p=η:=by rw[C,g1,g2,g3];rfl
          clear C;have B:(f p&&ν ((zi L f most i j).length<most))=θ:=by simp only[q,bO];exact xdf (by rw[<-d.1];exact eZ)
          have O:=Hd (λo=>(d.2.alloc o).skip D.o B);have z:=Hd (Bv (most:=most) (f:=f) D.o);rw[B]at z;clear B q;go_wp2;go_roundw;case rel=>exact⟨j+1,by omega,lc,G,E,J,lc,Hd ⟨by rw[z.o];exact d.1,O.o _⟩⟩
          case measure=>simp[intOf];omega
        .have q:f p=η:=by rw[C,g1,g2];rfl
         clear C;have B:(f p&&ν ((zi L f most i j).length<most))=θ:=by simp only[q,bO];exact xdf (by rw[<-d.1];exact eZ)
         have O:=Hd (λo=>(d.2.alloc o).skip D.o B);have z:=Hd (Bv (most:=most) (f:=f) D.o);rw[B]at z;clear B q;go_wp2;go_roundw;case rel=>exact⟨j+1,by omega,lc,G,E,J,lc,Hd ⟨by rw[z.o];exact d.1,O.o _⟩⟩
         case measure=>simp[intOf];omega
      .have q:f p=θ:=by rw[C,g1];rfl
       clear C;have B:(f p&&ν ((zi L f most i j).length<most))=θ:=by rw[q];rfl
       have O:=Hd (λo=>(d.2.alloc o).skip D.o B);have z:=Hd (Bv (most:=most) (f:=f) D.o);rw[B]at z;clear B q;go_wp2;go_roundw;case rel=>exact⟨j+1,by omega,lc,G,E,J,lc,Hd ⟨by rw[z.o];exact d.1,O.o _⟩⟩
       case measure=>simp[intOf];omega
     .obtain rfl:j=(L i).length:=by omega
      have ng:Hid (zi L f most i (L i).length=zi L f most (i+1) 0):=Hd QV;have HX:=Hd d.2.next;go_wp2;go_roundw;case rel=>exact⟨i+1,by omega,lc,G,E,J,lc,Hd ⟨by rw[<-ng.o];exact d.1,HX.o⟩⟩
      case measure=>simp[intOf];omega
  .obtain rfl:i=4:=by omega
   have HE:=Hd T.2;go_wp2;go_ret2;exact⟨_,lc,by simpa[zi]using HE.row,HE.below⟩
end
end
end Go.Proofs.YtkpekiajdlolnabGreat
namespace Go.Proofs.YtkpekiajdlolnabGreat.Ph
open Go.Conc Go.ConcN Go.RowKit Go.Maps Go Sim
theorem V7 (L:dw->KV) (f:Bs×Bs->je) (most:dw):∀i,lX most (λi=>((L i).filter f).length) (λi=>flat ((L i).filter f)) i=(((cat L f i).take most).length,flat ((cat L f i).take most))
 |0=>by simp[lX,cat,Ad]
 |i+1=>by
  simp only[lX];rw[V7 L f most i];simp only[cat];have d:most-((cat L f i).take most).length=most-(cat L f i).length:=by rw[ay];omega
  have q:∀j,((L i).filter f).take (min ((L i).filter f).length j)=((L i).filter f).take j:=λj=>by rw[Nat.min_comm,<-List.take_take,cA]
  rw[d,Qv,q,List.take_append,Jv];congr 1;rw[aB,ay (i:=most-_)];omega
theorem VE {F:cF->Prop} {ρ:Rel}:∀{l:fo MapEntry},(∀x∈l,ER F ρ x x)->EsR F ρ l l
 |[],_=>.nil
 |x::l,h=>.cons (h x (.head _)) (VE λy d=>h y (.tail _ d))
theorem jgl {L:KV} (h:zk w mb L):∃p:gF MapEntry×dw,w.heap[mb]?=ζ (.map p.1 p.2)/\(∀(F:cF->Prop) ρ,EsR F ρ p.1.toList p.1.toList)/\∀r:ac,r.heap[mb]?=ζ (.map p.1 p.2)->zk r mb L:=by
 obtain⟨C,B,G,D,J⟩:=h;refine⟨(C,B),G,λF ρ=>VE λx O=>?_,λr E=>⟨C,B,E,D,J⟩⟩;obtain⟨y,d⟩:=D.reads x O;have T:=WideElems.rd_key d;obtain⟨s,M⟩:=Maps.keyOf_string_inv underlying9 T;obtain⟨X,U,V⟩:=x;subst M;refine⟨.string s,?_,lc⟩;unfold WideElems.rd at d;simp only[Option.bind_eq_some_iff,aY]at d;obtain⟨_,_,z,q,_⟩:=d;cases U with
 |agg cs=>simp only[Rv]at q;split at q;{rename_i s' e;obtain⟨l⟩:=cs;subst e;exact .agg (.cons (.string s') .nil)};cases q
 |_=>cases q
section
variable {N:Blocks} {kv:fo aa} {w:ac} {cl:dw} {db mb:dw->dw} {L:dw->KV} {s t:bn} {most:dw}
theorem q8c {w:ac} {v:aa} {l:KV} (h:yx w b v l):nC (λ_=>True) w v l.length (flat l):=by refine⟨h.1.1,h.1.2.imp id ?_⟩;rintro⟨g,cap,cur,rfl,_,d,r,z,E,B⟩;obtain⟨G,D,q,C⟩:=h.2 g lc;rw[d]at q;cases q;exact⟨g,cap,cur,lc,trivial,d,r,z,B,C⟩
theorem q8l (h:Clu w cl db mb L) (wN:∀i,i<4->w.heap[db i]?=ζ (ω #[.map (ζ (mb i))] 142 (0,0))) (G:∀i,i<4->yh (L i)) (Y:∀i,i<4->∀p∈L i,p.1.length<=8) (E:most<=9223372036854775807) (M:∀b,N b->b<w.heap.size):
  rW N kv fS #[ξ (ζ ⟨cl,0,ε⟩),Γ s,Γ t,σ υ most] w λv w'=>
   ∃D,v=ο #[D,σ υ 0]/\w'.ownsRow w.heap.size 74 2 D ((cat L (inB s.data.toList t.data.toList) 4).take most).length (flat ((cat L (inB s.data.toList t.data.toList) 4).take most))/\(∀b,b<w.heap.size->w'.heap[b]?=w.heap[b]?)/\w.heap.size<=w'.heap.size/\w'.os=w.os/\w'.output=w.output:=by
 have O:∀i,∃p:gF MapEntry×dw,i<4->w.heap[mb i]?=ζ (.map p.1 p.2)/\(∀(F:cF->Prop) ρ,EsR F ρ p.1.toList p.1.toList)/\∀r:ac,r.heap[mb i]?=ζ (.map p.1 p.2)->zk r (mb i) (L i):=λi=>by by_cases q:i<4;{obtain⟨mv,B⟩:=h.p i q;obtain⟨p,z⟩:=jgl B.l;exact⟨p,λ_=>z⟩};exact⟨(#[],0),λJ=>jC J q⟩
 obtain⟨es,C⟩:=Classical.axiomOfChoice O;have X:=V7 L (inB s.data.toList t.data.toList) most 4;have:=qyg (N:=N) (kv:=kv) (cl:=cl) (db:=db) (mb:=mb) (es:=λi=>(es i).1) (ck:=λi=>(es i).2) (s:=s) (t:=t) (m:=λi=>((L i).filter (inB s.data.toList t.data.toList)).length) (rows:=λi=>flat ((L i).filter (inB s.data.toList t.data.toList))) (w:=w) (most:=most)
  ⟨λi q=>(h.p i q).choose_spec.d,wN,λi q=>(C i q).1⟩ (λi q=>(C i q).2.1) (λi q r T U=>by
   refine(VP (w:=r) (db:=db i) (mb:=mb i) (L:=L i) (by simp[al,T]) ((C i q).2.2 r U) (G i q) (h.len i q) (λp z=>by have:=Y i q p z;unfold bm;omega) s t).mono ?_;rintro e w' ⟨v,rfl,V,_⟩;exact q8c V) (λi q=>by
   have h1:=h.len i q;have h2:((L i).filter (inB s.data.toList t.data.toList)).length<=(L i).length:=bh _ _;show((L i).filter (inB s.data.toList t.data.toList)).length<=_
   omega) E M
 rw[X]at this;exact this
end
end Go.Proofs.YtkpekiajdlolnabGreat.Ph
namespace Go.Proofs.YtkpekiajdlolnabGreat
open Go.RowKit Go.Maps
structure zQ where
 cs:aa
 bs:aa
 out:dw->Prop
section
variable {n0:dw} {CS:zQ} {w:ac}
def mnK:bn:=⟨#[109,105,110,101]⟩
def mnV (k:dw):bn:=⟨#[aN (k%256),aN (k/256%256),aN (k/65536%256)]⟩
theorem YV (k:dw) (T:k<=4398046511104):aR prog 38 #[σ υ k] w λe w'=>(∃a b:bn,(a=mnK/\b=mnV k)/\e=ψ (Θ #[Γ a,Γ b]))/\aC w.heap.size w w':=by
 obtain⟨d,D,z⟩:∃b:gU,(b.toNat:gJ)=(k:gJ)%256/\aN (k%256)=b:=⟨aN (k%256),by simp,lc⟩
 obtain⟨q,E,B⟩:∃b:gU,(b.toNat:gJ)=(k:gJ)/256%256/\aN (k/256%256)=b:=⟨aN (k/256%256),by simp,lc⟩
 obtain⟨r,G,C⟩:∃b:gU,(b.toNat:gJ)=(k:gJ)/65536%256/\aN (k/65536%256)=b:=⟨aN (k/65536%256),by simp,lc⟩
 have J:(⟨#[d,q,r]⟩:bn)=mnV k:=by unfold mnV;rw[z,B,C]
 have M:=Hd J;clear z B C J;have U:(convert 139 9 (Δ (ζ ⟨w.heap.size+1,0,ε⟩) 3 3)).run prog ((w.alloc (ω #[Γ ⟨#[]⟩,Γ ⟨#[]⟩] 74)).alloc (ω #[σ Ξ ((k:gJ)%256),σ Ξ ((k:gJ)/256%256),σ Ξ ((k:gJ)/65536%256)] 5))=.ok (Γ ⟨#[d,q,r]⟩) _:=
  aG (P:=prog) _ 139 9 5 ⟨w.heap.size+1,0,ε⟩ 3 [d,q,r] underlying139 underlying5 underlying9 (λj O=>by
   rw[aj,az];match j,O with
   |0,_=>rw[show([d,q,r][0].toNat:gJ)=_ from D];go_simp
   |1,_=>rw[show([d,q,r][1].toNat:gJ)=_ from E];go_simp
   |2,_=>rw[show([d,q,r][2].toNat:gJ)=_ from G];go_simp)
 clear D E G;go_enter func38,ntmps38;go_wp2;refine bodyPost_ret (v:=Θ #[Γ ⟨#[109,105,110,101]⟩,Γ ⟨#[d,q,r]⟩]) (by simp[results,Tryz.results38,go_sem]) lc ⟨⟨_,_,⟨lc,M.o⟩,lc⟩,((qy _ _).alloc (jg _) _).alloc (by simp) _⟩
def Be (w:ac):aa->fo aa
 |.slice (ζ a) n _=>match w.heap[a.block]? with
  |some (.cells cur _ _)=>cur.toList.take n
  |_=>[]
 |_=>[]
def nG (w:ac) (S:aa) (g:dw):Prop:= ∃l∈Be w S,l.ownBlock=ζ g
theorem C8 {ty:ao} (h:w.ownsRow b ty 1 S n xs):Be w S=xs:=by rcases h.2 with⟨rfl,r⟩|⟨g,cap,cur,rfl,_,d,_,_,_,q⟩;{have:xs=[]:=cx.1 (by rw[h.1,r]);rw[this];rfl};show(match w.heap[g]? with|some (.cells cur _ _)=>cur.toList.take n|_=>[])=xs;rw[d,<-q,Nat.mul_one]
theorem EJ (h:∀g,S.ownBlock=ζ g->w'.heap[g]?=w.heap[g]?):Be w' S=Be w S:=by
 cases S with
 |slice p n c=>
  cases p with
  |none=>rfl
  |some a=>show(match w'.heap[a.block]? with|some (.cells cur _ _)=>cur.toList.take n|_=>[])=(match w.heap[a.block]? with|some (.cells cur _ _)=>cur.toList.take n|_=>[]);rw[h a.block lc]
 |_=>rfl
def CK (w:ac) (k:dw) (l:aa):Prop:= ∃m ys,w.ownsRow 0 74 2 l m ys/\∀i,i<m->ys[i*2]?=ζ (Γ mnK)/\ys[i*2+1]?=ζ (Γ (mnV k))
structure mP (n0:dw) (w:ac) (W:dw) (CS:zQ) (S:aa) (n:dw):Prop where
 b:∃cur,w.heap[W]?=ζ (.cells cur 36 (0,0))/\cur[2]?=ζ S/\cur[0]?=ζ CS.cs/\cur[1]?=ζ CS.bs/\cur[3]?=ζ (χ θ)
 row:∃xs,w.ownsRow n0 47 1 S n xs
 kept:∀k l,(Be w S)[k]?=ζ l->CK w k l
 out:∀g,nG w S g->¬CS.out g
theorem mP.Mi {W:dw} (h:mP n0 w W CS S n) (q:nG w S g):∃cur,w.heap[g]?=ζ (.cells cur 74 (0,0)):=by obtain⟨l,z,e⟩:=q;obtain⟨k,r⟩:=List.mem_iff_getElem?.1 z;obtain⟨m,D,B,_⟩:=h.kept k l r;rcases B.2 with⟨rfl,_⟩|⟨C,cap,cur,rfl,_,d,_⟩;{cases e};cases e;exact⟨cur,d⟩
theorem mP.cell {W:dw} (h:mP n0 w W CS S n):w.cell? ⟨W,2,ε⟩=ζ S/\w.frozen? ⟨W,2,ε⟩=θ/\W<w.heap.size:=by obtain⟨cur,d,q,r⟩:=h.b;exact⟨by simp[al,d,q],by simp[bz,d],(j5 d).1⟩
theorem qi {w:ac} {base size:dw} {ty:ao} {v:aa} (h:w.ownsRow base ty size v n xs) (k:∀g,v.ownBlock=ζ g->w'.heap[g]?=w.heap[g]?):w'.ownsRow base ty size v n xs:=by refine⟨h.1,h.2.imp id ?_⟩;rintro⟨g,cap,cur,rfl,d,q,r⟩;exact⟨g,cap,cur,lc,d,(k g lc).trans q,r⟩
theorem mP.block {w:ac} {W:dw} (h:mP n0 w W CS S n) (G:w'.heap[W]?=w.heap[W]?) (q:∀g,S.ownBlock=ζ g->w'.heap[g]?=w.heap[g]?) (E:∀g,nG w S g->w'.heap[g]?=w.heap[g]?):mP n0 w' W CS S n:=by obtain⟨cur,B,C,z⟩:=h.b;obtain⟨xs,D⟩:=h.row;refine⟨⟨cur,G.trans B,C,z⟩,⟨xs,qi D q⟩,λk l r=>?_,λg d=>h.out g (by unfold nG at d|-;rw[EJ q]at d;exact d)⟩;rw[EJ q]at r;obtain⟨m,O,M,J⟩:=h.kept k l r;exact⟨m,O,qi M λg d=>E g ⟨l,bi r,d⟩,J⟩
theorem xh {w:ac} {base size:dw} {ty:ao} {v:aa} (h:w.ownsRow base ty size v n xs) (d:v.ownBlock=ζ g):∃cur,w.heap[g]?=ζ (.cells cur ty (0,0)):=by rcases h.2 with⟨rfl,_⟩|⟨r,cap,cur,rfl,_,q,_⟩;{cases d};cases d;exact⟨cur,q⟩
def AZ (W:dw) (S l:aa) (b:dw):Prop:=b=W\/S.ownBlock=ζ b\/l.ownBlock=ζ b
structure MnW (n0:dw) (CS:zQ) (w0:ac) (W n m base g cap k:dw) (S:aa) (x y:bn) (j:dw) (w:ac):Prop where
 ls:mP n0 w W CS S n
 row:∃xs,w.ownsRow base 74 2 (Δ (ζ ⟨g,0,ε⟩) m cap) m xs/\∀i,i<j->xs[i*2]?=ζ (Γ x)/\xs[i*2+1]?=ζ (Γ y)
 new:∀g',nG w S g'->g'≠g
 mrk:w.heap[k]?=ζ (ω #[Γ x,Γ y] 74 (0,0))
 gk:g<k
 but:But (AZ W S (Δ (ζ ⟨g,0,ε⟩) m cap)) w0 w
section
variable {w0:ac} {W n m base g cap k:dw} {S:aa} {x y:bn}
theorem MnW.cells (j:dw) (h:MnW n0 CS w0 W n m base g cap k S x y j w) (O:j<m):(∃v,w.cell? ⟨g,j*2,ε⟩=ζ v)/\(∃v,w.cell? ⟨g,j*2+1,ε⟩=ζ v)/\w.frozen? ⟨g,j*2,ε⟩=θ/\w.frozen? ⟨g,j*2+1,ε⟩=θ/\w.cell? ⟨k,0,ε⟩=ζ (Γ x)/\w.cell? ⟨k,1,ε⟩=ζ (Γ y):=by
 obtain⟨xs,C,_⟩:=h.row;rcases C.2 with⟨e,_⟩|⟨G,D,cur,e,_,q,J,_,M,_⟩;{cases e}
 .injection e with d E B;injection d with d;injection d with d;subst d;subst B;have r:j*2<cur.size:=by omega
  have z:j*2+1<cur.size:=by omega
  exact⟨⟨cur[j*2],by simp[al,q,r]⟩,⟨cur[j*2+1],by simp[al,q,z]⟩,by simp[bz,q],by simp[bz,q],by simp[al,h.mrk],by simp[al,h.mrk]⟩
theorem MnW.stored (j:dw) (h:MnW n0 CS w0 W n m base g cap k S x y j w) (hj:j<m):MnW n0 CS w0 W n m base g cap k S x y (j+1) ((w.setCell ⟨g,j*2,ε⟩ (Γ x)).setCell ⟨g,j*2+1,ε⟩ (Γ y)):=by
 obtain⟨xs,h1,J⟩:=h.row;rcases h1.2 with⟨e,_⟩|⟨d,Lb,cur,e,E,G,h3,h4,h5,h6⟩;{cases e}
 .injection e with z e2 e3;injection z with z;injection z with z;subst z;subst e3;have s1:=xhs w g (j*2) cur _ (Γ x) G;have s2:=xhs _ g (j*2+1) _ _ (Γ y) s1;have B:∀b,b≠g->((w.setCell ⟨g,j*2,ε⟩ (Γ x)).setCell ⟨g,j*2+1,ε⟩ (Γ y)).heap[b]?=w.heap[b]?:=λb E=>by rw[xho _ _ _ _ E,xho _ _ _ _ E]
  obtain⟨cw,V,_,_⟩:=h.ls.b;have T:∀d,S.ownBlock=ζ d->d≠g:=λd r e=>by obtain⟨zs,hz⟩:=h.ls.row;obtain⟨cz,U⟩:=xh hz r;rw[e,G]at U;cases U
  refine⟨h.ls.block (B W λe=>by rw[e,G]at V;cases V) (λd r=>B d (T d r)) (λd r=>B d (h.new d r)),⟨_,⟨?_,.inr ⟨g,cap,_,lc,E,s2,h3,h4,by simp[h5],lc⟩⟩,λi hi=>?_⟩,λd r=>h.new d (by unfold nG at r;rw[EJ λq hq=>B q (T q hq)]at r;exact r),(B k (by have:=h.gk;omega)).trans h.mrk,h.gk,(h.but.setCell (κ (κ lc)) _ _).setCell (κ (κ lc)) _ _⟩;{rw[ay];simp;omega}
  .by_cases e:i=j
   .subst e;have X:i*2<cur.size:=by omega
    have Y:i*2+1<cur.size:=by omega
    have C:i*2<m*2:=by omega
    have D:i*2+1<m*2:=by omega
    constructor;{rw[ax C,am,xne (by omega),xsl X]};rw[ax D,am,xsl (by simpa using Y)]
   .obtain⟨M,O⟩:=J i (by omega);rw[<-h6]at M O;have C:i*2<m*2:=by omega
    have D:i*2+1<m*2:=by omega
    rw[ax C,am]at M;rw[ax D,am]at O;constructor;{rw[ax C,am,xne (by omega),xne (by omega)];exact M};rw[ax D,am,xne (by omega),xne (by omega)];exact O
end
theorem Src.two (w:ac) (a b c d:bn) (ty:ao):Src (w.alloc (ω #[Γ a,Γ b,Γ c,Γ d] ty)) (ζ ⟨w.heap.size,0,ε⟩) 2 [Γ a,Γ b,Γ c,Γ d]:=by
 refine⟨lc,λz e j u q=>?_,λh=>(by cases h),λu r=>by simp at r;rcases r with rfl|rfl|rfl|rfl<;>exact⟨_,lc⟩⟩;cases e;rw[aj,az];match j,q with
 |0,q=>simp at q;subst q;go_simp
 |1,q=>simp at q;subst q;go_simp
 |2,q=>simp at q;subst q;go_simp
 |3,q=>simp at q;subst q;go_simp
theorem WJ:∃i,prog.info? 47=ζ i/\i.zero=ζ (Δ ε 0 0)/\i.size=1/\i.bytes=24:=by
 have h:(prog.info? 47).map (λi=>(i.zero,i.size,i.bytes))=ζ (ζ (Δ ε 0 0),1,24):=by kernel_rfl
 obtain⟨i,r,d⟩:=aY.1 h;injection d with d q;injection q with q z;exact⟨i,r,d,q,z⟩
theorem cell1 (w:ac) (a:aa) (ty:ao):∀(j:dw) (u:aa),[a][j]?=ζ u->(w.alloc (ω #[a] ty)).cell? ((⟨w.heap.size,0,ε⟩:Addr).add j)=ζ u:=λj u d=>by
 rw[aj,az];match j,d with
 |0,d=>simp at d;subst d;go_simp
theorem ug {w:ac} {base size:dw} {ty:ao} {v:aa} (h:w.ownsRow base ty size v n xs):∃q cp,v=.slice q n cp:=by rcases h.2 with⟨rfl,d⟩|⟨g,cap,cur,rfl,_⟩;{exact⟨ε,0,by rw[d]⟩};exact⟨_,_,lc⟩
theorem mP.grow {w w3:ac} {W:dw} {v3 l l':aa} {o:Obj} (h:mP n0 w W CS S n) (z:(w.alloc o).grownBy w3 S.ownBlock) (hr:w3.ownsRow n0 47 1 v3 (n+1) (xs++[l'])) (T:w.ownsRow n0 47 1 S n xs) (O:CK w n l') (uO:∀g,l'.ownBlock=ζ g->¬CS.out g):
  w3.cell? ⟨W,2,ε⟩=ζ S/\w3.frozen? ⟨W,2,ε⟩=θ/\mP n0 (w3.setCell ⟨W,2,ε⟩ v3) W CS v3 (n+1)/\But (AZ W S l) w (w3.setCell ⟨W,2,ε⟩ v3):=by
 obtain⟨cur,M,X,G⟩:=h.b;obtain⟨zs,Y⟩:=h.row;have eZ:=h.cell.2.2;have fG:ζ W≠S.ownBlock:=λe=>by obtain⟨c,d⟩:=xh Y e.symm;rw[M]at d;cases d
 have E:w3.heap[W]?=ζ (.cells cur 36 (0,0)):=(z.block W (by simp;omega) fG).trans ((aU w o eZ).trans M);have J:(w3.setCell ⟨W,2,ε⟩ v3).ownsRow n0 47 1 v3 (n+1) (xs++[l']):=qi hr λg U=>xho _ _ _ _ λe=>by obtain⟨c,d⟩:=xh hr U;rw[show g=W from e,E]at d;cases d
 have stay:∀(b:dw) (cur:gF aa),w.heap[b]?=ζ (Obj.cells cur 74 (0,0))->(w3.setCell ⟨W,2,ε⟩ v3).heap[b]?=w.heap[b]?:=λb cur D=>by have hl:=(j5 D).1;rw[xho _ _ _ _ λe=>by rw[show b=W from e,M]at D;cases D];refine(z.block b (by simp;omega) λe=>?_).trans (aU w o hl);obtain⟨c,d⟩:=xh Y e.symm;rw[D]at d;cases d
 have C:∀k q,CK w k q->CK (w3.setCell ⟨W,2,ε⟩ v3) k q:=λk q ⟨m,ys,V,a2⟩=>⟨m,ys,qi V λg U=>by
  obtain⟨c,d⟩:=xh V U
  exact stay g c d,a2⟩
 refine⟨by simp[al,E,X],by simp[bz,E],⟨⟨_,xhs w3 W 2 cur _ _ E,by rw[xsl ((j5 X).1)],by rw[xne (by omega),G.1],by rw[xne (by omega),G.2.1],by rw[xne (by omega),G.2.2]⟩,⟨_,J⟩,λk q r=>?_,λg ⟨q,hq,e⟩=>?_⟩,But.setCell (B:=AZ W S l) ⟨by have:=z.size;simp at this;omega,λb hb hn=>?_,(by rw[z.os];rfl),(by rw[z.output];rfl)⟩ (ι lc) _ _⟩
 .rw[C8 J]at r;have hxl:xs.length=n:=by have:=T.1;omega
  rcases dR k n with jH|jH;{rw[aM (by omega)]at r;exact C k q (h.kept k q (by rw[C8 T];exact r))}
  .rw[aL (by omega)]at r;have fE:k-xs.length=0:=by have:=(aq.1 r).1;simp at this;omega
   rw[fE]at r;cases r;obtain rfl:k=n:=by omega
   exact C k _ O
 .rw[C8 J]at hq;rcases List.mem_append.1 hq with hq|hq;{exact h.out g ⟨q,by rw[C8 T];exact hq,e⟩};rw[bA]at hq;subst hq;exact uO g e
 .exact(z.block b (by simp;omega) λe=>hn (κ (ι e.symm))).trans (aU w o hb)
theorem at_new {v3 v0:aa} {z y:dw} (h:v3.ownBlock=v0.ownBlock\/v3.ownBlock=ζ z) (d:y<=z):∀q,v3.ownBlock=ζ q->v0.ownBlock=ζ q\/y<=q:=λq e=>by rcases h with h|h;{left;rw[<-h];exact e};right;rw[h]at e;cases e;exact d
theorem mP.app {w:ac} {W:dw} {l:aa} {o:Obj} {base:dw} (h:mP n0 w W CS S n) (B:(w.alloc o).ownsRow base 74 2 l m xs) (q:(w.alloc o).grownBy w2 l.ownBlock) (U:∀g,nG w S g->l.ownBlock≠ζ g):mP n0 w2 W CS S n/\But (AZ W S l) w w2:=by
 obtain⟨cur,M,X,V⟩:=h.b;obtain⟨Y,O⟩:=h.row;have key:∀(b:dw) (c:gF aa) (ty:ao),w.heap[b]?=ζ (Obj.cells c ty (0,0))->ty≠74->w2.heap[b]?=w.heap[b]?:=λb c ty r J=>by have C:=(j5 r).1;refine(q.block b (by simp;omega) λe=>?_).trans (aU w o C);obtain⟨D,d⟩:=xh B e.symm;rw[aU w o C,r]at d;have E:Obj.cells c ty (0,0)=Obj.cells D 74 (0,0):=xoi d;injection E with _ G;exact J G
 refine⟨h.block (key W _ _ M (by decide)) (λg z=>?_) (λg z=>?_),⟨by have:=q.size;simp at this;omega,λb r T=>(q.block b (by simp;omega) λe=>T (κ (κ e.symm))).trans (aU w o r),(by rw[q.os];rfl),(by rw[q.output];rfl)⟩⟩;{obtain⟨c,d⟩:=xh O z;exact key g _ _ d (by decide)};obtain⟨c,d⟩:=h.Mi z;have B:=(j5 d).1;exact(q.block g (by simp;omega) λe=>U g z e.symm).trans (aU w o B)
theorem CK.two {w:ac} {base:dw} {v:aa} {zs:fo aa} {a b:bn} (h:w2.ownsRow base 74 2 v (m+2) (zs++[Γ a,Γ b,Γ a,Γ b])) (z:zs.length=m*2) (q:∀i,i<m->zs[i*2]?=ζ (Γ a)/\zs[i*2+1]?=ζ (Γ b)) (d:a=mnK/\b=mnV k):CK w2 k v:=by
 obtain⟨rfl,rfl⟩:=d;refine⟨m+2,_,⟨h.1,h.2.imp id λ⟨g,cap,cur,e,_,r⟩=>⟨g,cap,cur,e,xzl _,r⟩⟩,λi B=>?_⟩;by_cases xS:i<m;{rw[aM (by omega),aM (by omega)];exact q i xS}
 .rw[aL (by omega),aL (by omega),z];have:i=m\/i=m+1:=by omega
  rcases this with rfl|rfl;{rw[show i*2-i*2=0 by omega,show i*2+1-i*2=1 by omega];exact⟨lc,lc⟩};rw[show(m+1)*2-m*2=2 by omega,show(m+1)*2+1-m*2=3 by omega];exact⟨lc,lc⟩
theorem q12 {W base cap:dw} (h:mP n0 w W CS S n) (hn:n<=4398046511103) (hl:w.ownsRow base 74 2 (Δ (ζ ⟨g,0,ε⟩) m cap) m xs) (hm:m<=1073741820) (jA:n0<=w.heap.size) (sK:∀d,nG w S d->d≠g) (hO:∀d,CS.out d->d<base):
  aR prog 30 #[ξ (ζ ⟨W,0,ε⟩),Δ (ζ ⟨g,0,ε⟩) m cap] w λe w'=>(e=ψ (ο #[]))/\(∃S',mP n0 w' W CS S' (n+1)/\∀q,S'.ownBlock=ζ q->S.ownBlock=ζ q\/w.heap.size<=q)/\But (AZ W S (Δ (ζ ⟨g,0,ε⟩) m cap)) w w':=by
 obtain⟨c1,c2,c3⟩:=h.cell;obtain⟨S1,S2,hS⟩:∃sa cp,S=.slice sa n cp:=by obtain⟨xs,h⟩:=h.row;rcases h.2 with⟨rfl,B⟩|⟨g,cap,cur,rfl,_⟩;{exact⟨ε,0,by rw[B]⟩};exact⟨_,_,lc⟩
 subst hS;have HL:=Hd h;have HR:=Hd hl;have TR:=Hd jA;have HNW:=Hd sK;have HO:=Hd hO;clear h hl jA sK hO;go_enter func30,ntmps30;go_wp2_with (go_at_call 38;refine(YV n (by omega)).mono ?_;rintro e w1 ⟨⟨C,mb,yP,rfl⟩,iB⟩;have l9:=Hd iB;have TQ:=Hd yP;clear iB yP)
 go_loopw [15] (λx wr=>∃j:dw,j<=m/\x=σ υ j/\Hid (MnW n0 CS w W n m base g cap w1.heap.size (.slice S1 n S2) C mb j wr)) (λx _=>m-(intOf x).toNat);case atStart=>
  have J:=l9.alloc l9.size (ω #[Γ C,Γ mb] 74);have hg:g<w.heap.size:=(HR.lt g lc).2;have G:∀d,bF (.slice S1 n S2)=ζ d->_:=λd r=>J.block d (let⟨_,B⟩:=HL.row;(B.lt d r).2);refine⟨0,xzl _,lc,Hd ⟨HL.block (J.block W c3) G (λd r=>J.block d (let⟨_,B⟩:=HL.Mi r;(j5 B).1)),⟨xs,qi HR.o λd r=>by cases r;exact J.block g hg,λi hi=>jC hi (dz i)⟩,λd r=>HNW.o d (by unfold nG at r;rw[EJ G]at r;exact r),bB _ _,xll hg l9.size,il J⟩⟩
 case round=>
  obtain⟨j,hj,rfl,z⟩:=hrel;by_cases iR:j<m
  .obtain⟨⟨v0,d0⟩,⟨v1,d1⟩,f0,f1,k0,k1⟩:=MnW.cells j z.o iR;have HN:=Hd (MnW.stored j z.o iR);go_wp2;go_roundw;case rel=>exact⟨j+1,by omega,lc,HN⟩
   case measure=>simp[intOf];omega
  .obtain rfl:j=m:=by omega
   have k0:wr.cell? ⟨w1.heap.size,0,ε⟩=ζ (Γ C):=by simp[al,z.mrk]
   have k1:wr.cell? ⟨w1.heap.size,1,ε⟩=ζ (Γ mb):=by simp[al,z.mrk]
   obtain⟨zs,B,O⟩:=z.row;have HZM:=Hd O;clear O;obtain⟨ys,hy⟩:=z.ls.row;have Ia:=Hd z.but.size;have E:=Hd B;have HY:=Hd hy;clear B hy;obtain⟨li,T,U,V,X⟩:=WJ;have HI:=Hd (aF T (aF U (aF V X)));clear T U V X;obtain⟨pi,T,U,V,X⟩:=Xi;have HP:=Hd (aF T (aF U (aF V X)));clear T U V X;go_wp2_with (first
    |(at_builtin;(refine ce _ lc (.tmp 23) (.tmp 26) 47 lc base 74 pi _ 2 32 underlying47 HP.1 HP.2.1 HP.2.2.1 HP.2.2.2 lc (by decide) (Δ (ζ ⟨g,0,ε⟩) j cap) j zs lc (E.alloc _) ⟨wr.heap.size,0,ε⟩ 2 2 [Γ C,Γ mb,Γ C,Γ mb] lc lc ((Src.two wr C mb C mb _).cell _ lc) (by intro u M;simp at M;rcases M with rfl|rfl|rfl|rfl<;>rfl) (by unfold bm;omega) (by omega) (by have:=(E.lt g lc).1;have:=(E.lt g lc).2;simp;omega) ?_;intro v2 w2 fu gV _;obtain⟨jF,jI,iQ⟩:=ug fu;have D:=Hd (z.ls.app (E.alloc _) gV (λd r e=>z.new d r (by cases e;rfl)));have wX:=Hd (CK.two (w:=w2) fu E.1 HZM.o TQ.o);have KL:=Hd (λ(d:dw) (r:v2.ownBlock=ζ d) (ho:CS.out d)=>(Nat.not_lt.2 (World.ownsRow.lt fu d r).1) (HO.o d ho));obtain⟨d2,e2,_⟩:=D.1.cell;rw[iQ]at wX KL;rw[iQ];clear fu gV iQ))
    |(at_builtin;(obtain⟨qs,hq⟩:=D.1.row;refine cK _ lc (.tmp 31) (.tmp 33) 34 lc n0 47 li _ 1 24 underlying34 HI.1 HI.2.1 HI.2.2.1 HI.2.2.2 lc (by decide) (.slice S1 n S2) n qs lc (hq.alloc _) ⟨w2.heap.size,0,ε⟩ 1 1 [.slice jF (j+2) jI] lc lc (cell1 w2 _ _) (by intro u M;simp at M;subst M;rfl) (by unfold bm;omega) (by omega) (by have a0:=TR.o;have a1:=Ia.o;have a2:=D.2.size;simp;omega) ?_;intro v3 w3 fH jQ _ Cg;have KG:Hid (∀q,v3.ownBlock=ζ q->bF (.slice S1 n S2)=ζ q\/w.heap.size<=q):=Hd (at_new Cg (by have a1:=Ia.o;have a2:=D.2.size;simp;omega));obtain⟨rO,sI,nY⟩:=ug fH;have Y:=Hd (D.1.grow (l:=Δ (ζ ⟨g,0,ε⟩) j cap) jQ fH hq wX.o KL.o);rw[nY]at Y KG;obtain⟨d3,e3,_⟩:=Y.o;rw[nY];clear fH jQ nY hq Cg)))
   go_end0;exact⟨lc,⟨_,Y.2.2.1,KG.o⟩,(z.but.trans D.2).trans Y.2.2.2⟩
theorem q6u {W:dw} (h:mP n0 w W CS S n) (hn:n<=4398046511103) (jA:n0<=w.heap.size) (hO:∀d,CS.out d->d<w.heap.size):
  aR prog 30 #[ξ (ζ ⟨W,0,ε⟩),Δ ε 0 0] w λe w'=>(e=ψ (ο #[]))/\(∃S',mP n0 w' W CS S' (n+1)/\∀q,S'.ownBlock=ζ q->S.ownBlock=ζ q\/w.heap.size<=q)/\But (AZ W S (Δ ε 0 0)) w w':=by
 obtain⟨c1,c2,c3⟩:=h.cell;obtain⟨J,M,hS⟩:∃sa cp,S=.slice sa n cp:=by obtain⟨xs,h⟩:=h.row;exact ug h
 subst hS;have U:=Hd h;have TR:=Hd jA;have HO:=Hd hO;clear h jA hO;obtain⟨li,l1,l2,l3,l4⟩:=WJ;have G:=Hd (aF l1 (aF l2 (aF l3 l4)));clear l1 l2 l3 l4;go_enter func30,ntmps30;go_wp2_with (go_at_call 38;refine(YV n (by omega)).mono ?_;rintro e w1 ⟨⟨r,mb,yP,rfl⟩,iB⟩;have l9:=Hd iB;have TQ:=Hd yP;clear iB yP)
 refine bR 1 ?_;rw[cH];have C:=l9.alloc l9.size (ω #[Γ r,Γ mb] 74);have V:Hid (mP n0 (w1.alloc (ω #[Γ r,Γ mb] 74)) W CS (.slice J n M) n):=Hd (U.block (C.block W c3) (λd D=>C.block d (let⟨_,hz⟩:=U.row;(hz.lt d D).2)) (λd D=>C.block d (let⟨_,hz⟩:=U.Mi D;(j5 hz).1)));have X:=Hd C.size;have ig:=Hd (il (B:=AZ W (.slice J n M) (Δ ε 0 0)) C);clear C;have k0:(w1.alloc (ω #[Γ r,Γ mb] 74)).cell? ⟨w1.heap.size,0,ε⟩=ζ (Γ r):=by go_simp
 have k1:(w1.alloc (ω #[Γ r,Γ mb] 74)).cell? ⟨w1.heap.size,1,ε⟩=ζ (Γ mb):=by go_simp
 generalize w1.alloc (ω #[Γ r,Γ mb] 74)=wr at*;go_wp2_with (first
  |(at_builtin;refine yu (v:=Δ ε 0 0) (base:=w.heap.size) lc (.tmp 23) (.tmp 26) lc lc lc (aP _ _ _ _) (lu.nil _) (Src.two _ r mb r mb _) (by omega) (by have a1:=X.o;simp;omega) ?_;intro v2 w2 O zT gV;obtain⟨jF,jI,T⟩:=ug O;have z:=Hd (V.app (aP _ 0 _ _) gV (λd _ e=>by cases e));have wX:=Hd (CK.two (w:=w2) (m:=0) (zs:=[]) O lc (λi hi=>jC hi (dz i)) TQ.o);have KL:=Hd (λ(d:dw) (D:v2.ownBlock=ζ d) (ho:CS.out d)=>(Nat.not_lt.2 (World.ownsRow.lt O d D).1) (HO.o d ho));obtain⟨d2,e2,_⟩:=z.1.cell;rw[az]at T;rw[T]at wX KL;rw[T];clear O zT gV T)
  |(at_builtin;(obtain⟨qs,hq⟩:=z.1.row;refine cK _ lc (.tmp 31) (.tmp 33) 34 lc n0 47 li _ 1 24 underlying34 G.1 G.2.1 G.2.2.1 G.2.2.2 lc (by decide) (.slice J n M) n qs lc (hq.alloc _) ⟨w2.heap.size,0,ε⟩ 1 1 [.slice jF 2 jI] lc lc (cell1 w2 _ _) (by intro u hu;simp at hu;subst hu;rfl) (by unfold bm;omega) (by omega) (by have a0:=TR.o;have a1:=X.o;have a2:=z.2.size;simp;omega) ?_;intro v3 w3 Y jQ _ Cg;have KG:Hid (∀q,v3.ownBlock=ζ q->bF (.slice J n M)=ζ q\/w.heap.size<=q):=Hd (at_new Cg (by have a1:=X.o;have a2:=z.2.size;simp;omega));obtain⟨rO,sI,nY⟩:=ug Y;have E:=Hd (z.1.grow (l:=Δ ε 0 0) jQ Y hq wX.o KL.o);rw[nY]at E KG;obtain⟨d3,e3,_⟩:=E.o;rw[nY];clear Y jQ nY hq Cg)))
 go_end0;exact⟨lc,⟨_,E.2.2.1,KG.o⟩,(ig.trans z.2).trans E.2.2.2⟩
end
def mpA:gI dw->gI Addr
 |none=>ε
 |some g=>ζ ⟨g,0,ε⟩
def ptr:gI dw->aa
 |none=>.pointer ε
 |some g=>ξ (ζ ⟨g,0,ε⟩)
theorem Iy (o:gI dw):ptr o=ξ (mpA o):=by cases o<;>rfl
def pkV (h k:dw):aa:=Θ #[σ υ h,σ υ k]
noncomputable def pk (h k:dw):Lit:=(keyOf prog 154 (pkV h k)).getD .nil
theorem jm6:((au 16).all λi=>(keyOf prog 154 (pkV (i/4) (i%4))).isSome)=η:=by kernel_rfl
theorem jg2 (h:dw) (d:h<4) (k:dw) (q:k<4):(keyOf prog 154 (pkV h k)).isSome=η:=by have:=bk.1 jm6 (h*4+k) (aJ.2 (by omega));rwa [show(h*4+k)/4=h by omega,show(h*4+k)%4=k by omega]at this
theorem Cw (d:h<4) (q:k<4):keyOf prog 154 (pkV h k)=ζ (pk h k):=by obtain⟨l,r⟩:=Option.isSome_iff_exists.1 (jg2 h d k q);unfold pk;rw[r];rfl
theorem q2e:laidOutB prog=η:=by kernel_rfl
theorem q7w:(154:ao)<prog.types.size:=iO (by kernel_rfl)
theorem q2f:(match prog.underlying 154 with|some (.array _ _)|some (.struct _)=>η|_=>θ)=η:=by rw[underlying154]
theorem zY:Keyed prog 154:=Keyed.of_law (deep_law_laid q2e (m:=3) (by omega) q7w (by kernel_rfl) q2f)
theorem IA {d k':dw} (z:h<4) (B:k<4) (q:d<4) (C:k'<4) (e:pk h k=pk d k'):h=d/\k=k':=by have:=zY.inj (Cw z B) (e▸Cw q C);simp only[pkV,Value.agg.injEq]at this;have r:=eD Array.toList this;simp at r;omega
theorem Iz (d:h<4) (q:k<4):WideAt.IsKeyLit (pk h k):=zY.key (Cw d q)
def Rp:aa->gI (cJ Unit×fo bQ)
 |.pointer none=>ζ (.lit .nil,[])
 |.pointer (ζ ⟨g,0,ε⟩)=>ζ (.lit (.int .i64 g),[])
 |_=>ε
def pd:gI dw->cJ Unit
 |none=>.lit .nil
 |some g=>.lit (.int .i64 g)
theorem jfb (o:gI dw):Rp (ptr o)=ζ (pd o,[]):=by cases o<;>rfl
theorem Zw {v:aa} {o:gI dw} {ps:fo bQ} (h:Rp v=ζ (pd o,ps)):v=ptr o:=by
 unfold Rp at h;split at h
 .cases o with
  |none=>rfl
  |some g=>simp[pd]at h
 .cases o with
  |none=>simp[pd]at h
  |some g=>simp only[pd,bY,cj,DataW.lit.injEq,Lit.int.injEq,true_and,Int.natCast_inj]at h;rw[h.1];rfl
 .cases h
def lH (w:ac) (sm:dw) (f:dw->dw->gI dw):Prop:= ∃n D,w.ownsMap prog 154 Rp sm n D/\(∀h k,h<4->k<4->D.atKey (pk h k) (pd ε)=pd (f h k))/\∀kl,Maps.has D kl=η->∃h k,h<4/\k<4/\kl=pk h k/\(f h k).isSome=η
def vz {α:Type} (f:dw->dw->gI α) (h k:dw) (o:gI α):dw->dw->gI α:=λa b=>if a=h/\b=k then o else f a b
theorem xq {α:Type} (f:dw->dw->gI α) (h k:dw) (o:gI α):vz f h k o h k=o:=by unfold vz;rw[jb ⟨lc,lc⟩]
theorem jy {α:Type} {f:dw->dw->gI α} {a:dw} {o:gI α} (e:¬(a=h/\b=k)):vz f h k o a b=f a b:=by unfold vz;rw[gY e]
section
variable {w w':ac} {sm h k:dw} {f:dw->dw->gI dw}
theorem lH.lt (m:lH w sm f):sm<w.heap.size:=by obtain⟨n,D,d,_⟩:=m;exact d.lt
theorem lH.map (m:lH w sm f):∃q d,w.heap[sm]?=ζ (.map q d):=by obtain⟨n,D,⟨q,d,r,_⟩,_⟩:=m;exact⟨q,d,r⟩
theorem lH.block (m:lH w sm f) (e:w'.heap[sm]?=w.heap[sm]?):lH w' sm f:=by obtain⟨n,D,⟨q,d,z,r⟩,B,C⟩:=m;exact⟨n,D,⟨q,d,e.trans z,r⟩,B,C⟩
theorem lH.ty (m:lH w sm f) {cur:gF aa} {ty:ao} (d:w.heap[b]?=ζ (.cells cur ty (0,0))):b≠sm:=λe=>by obtain⟨r,q,h⟩:=m.map;rw[e,h]at d;cases d
theorem lH.q67 (d:w.heap[sm]?=ζ (.map #[] 0)):lH w sm (λ_ _=>ε):=⟨0,.map [],⟨#[],0,d,⟨by simp,MapKept.stamped_empty 0,by simp⟩,jg _,lc⟩,λh k _ _=>lc,λq h=>by simp[Maps.has]at h⟩
theorem lH.few (m:lH w sm f):∃D,w.ownsMap prog 154 Rp sm 16 D/\(∀h k,h<4->k<4->D.atKey (pk h k) (pd ε)=pd (f h k))/\∀G,Maps.has D G=η->∃h k,h<4/\k<4/\G=pk h k/\(f h k).isSome=η:=by
 obtain⟨n,D,E,m2,J⟩:=m;refine⟨D,?_,m2,J⟩;obtain⟨d,B,V,Y⟩:=E.entries zY;obtain⟨C,M,O,F,hs,q⟩:=E;refine⟨C,M,O,F,?_,q⟩;have r:C.size=d.length:=by rw[B]at q;injection q with q;rw[q,length_sorted];simp
 rw[r,<-cE (f:=Prod.fst)];have X:d.map Prod.fst ⊆ (au 4).flatMap λh=>(au 4).map λk=>pk h k:=λl r=>by obtain⟨p,z,rfl⟩:=List.mem_map.1 r;obtain⟨h,k,T,U,e,_⟩:=J p.1 (by rw[B,Maps.has_eq,dl];exact⟨p,z,WideAt.sameKey_self (Y p z)⟩);rw[e];exact List.mem_flatMap.2 ⟨h,aJ.2 T,List.mem_map.2 ⟨k,aJ.2 U,lc⟩⟩
 have:=List.Nodup.length_le_of_subset ((di.2 V:(d.map Prod.fst).Pairwise (· ≠·))) X;exact this
theorem jdq (w:ac):(zeroValue 155).run prog w=.ok (.pointer ε) w:=by kernel_rfl
theorem lH.look (m:lH w sm f) (d:h<4) (q:k<4):(Instr.lookup 76 (.map (ζ sm)) (pkV h k) θ).run prog w=.ok (ptr (f h k)) w:=by obtain⟨n,D,B,C,_⟩:=m;obtain⟨v,ps,z,r⟩:=B.lookup zY underlying76 (jdq w) (zd:=pd ε) (zp:=[]) lc (Cw d q);rw[C h k d q]at r;rw[z,Zw r]
theorem lH.put (m:lH w sm f) (B:h<4) (C:k<4) (g:dw):∃w',(Instr.mapUpdate 76 (.map (ζ sm)) (pkV h k) (ξ (ζ ⟨g,0,ε⟩))).run prog w=.ok () w'/\lH w' sm (vz f h k (ζ g))/\But (· =sm) w w':=by obtain⟨D,G,V,X⟩:=m.few;obtain⟨w',T,Y,z⟩:=G.update zY underlying76 (by decide) (Cw B C) (jfb (ζ g));refine⟨w',T,⟨_,_,Y,λa b q d=>?_,λJ M=>?_⟩,⟨z.size,λi U d=>z.block i U (by simpa using d),z.os,z.output⟩⟩;{by_cases e:a=h/\b=k;{obtain⟨rfl,rfl⟩:=e;rw[xq,Maps.atKey_put_same G.isMap (Iz q d)]};rw[jy e,Maps.atKey_put_other (λr=>e (IA q d B C r)),V a b q d]};by_cases e:J=pk h k;{exact⟨h,k,B,C,e,by rw[xq];rfl⟩};rw[Maps.has_put_other e]at M;obtain⟨a,b,q,d,r,O⟩:=X J M;exact⟨a,b,q,d,r,by rw[jy (λE=>e (by rw[r,E.1,E.2]))];exact O⟩
theorem lH.del (m:lH w sm f) (C:h<4) (E:k<4) (ty:ao):∃w',(Builtin.delete_ #[76,154] ty #[.map (ζ sm),pkV h k]).run prog w=.ok (ο #[]) w'/\lH w' sm (vz f h k ε)/\But (· =sm) w w':=by obtain⟨n,D,U,V,X⟩:=m;obtain⟨w',O,Y,⟨es,ck,iZ,J,d,rfl⟩⟩:=World.ownsMap.drop U zY underlying76 (Cw C E) ty;refine⟨_,O,⟨_,_,Y,λa b r d=>?_,λG z=>?_⟩,⟨by simp[ChangeMaps.setBlock],λi hi T=>ChangeMaps.heap_setBlock_other d _ T,lc,lc⟩⟩;{by_cases e:a=h/\b=k;{obtain⟨rfl,rfl⟩:=e;rw[xq,Maps.atKey_del_same]};rw[jy e,Maps.atKey_del_other (λq=>e (IA r d C E q)),V a b r d]};by_cases e:G=pk h k;{rw[e,Maps.has_del_same]at z;cases z};rw[Maps.has_del_other e]at z;obtain⟨a,b,r,d,q,M⟩:=X G z;exact⟨a,b,r,d,q,by rw[jy (λB=>e (by rw[q,B.1,B.2]))];exact M⟩
end
theorem qyi (w:ac) (g j:dw) {cur:gF aa} {e:ao} {fr:dw×dw} (v:aa) (h:w.heap[g]?=ζ (.cells cur e fr)):(w.setCell ⟨g,j,ε⟩ v).heap[g]?=ζ (.cells (cur.setIfInBounds j v) e fr):=by simp[World.setCell,Array.getElem?_modify,h]
theorem Yp (g:dw):∀(vs:fo aa) (o:dw) (w:ac) (cur:gF aa) (e:ao) (fr:dw×dw),w.heap[g]?=ζ (.cells cur e fr)->o+vs.length<=cur.size->
  ∃d,(w.setCells g o vs).heap[g]?=ζ (.cells d e fr)/\d.size=cur.size/\∀k,d[k]?=if o<=k/\k<o+vs.length then vs[k-o]? else cur[k]?
 |[],o,w,cur,e,fr,h,hl=>⟨cur,h,lc,λk=>by rw[gY (by rw[List.length_nil];omega)]⟩
 |v::r,o,w,cur,e,fr,h,hl=>by simp only[cu]at hl;obtain⟨d,q,z,B⟩:=Yp g r (o+1) _ _ e fr (qyi w g o v h) (by simp;omega);refine⟨d,q,by simpa using z,λk=>?_⟩;rw[B k];simp only[cu];by_cases hk:k=o;{subst hk;rw[gY (by omega),jb (by omega),xsl (by omega),Nat.sub_self];rfl};rw[xne (by omega)];by_cases h1:o+1<=k/\k<o+1+r.length;{rw[jb h1,jb (by omega),show k-o=(k-(o+1))+1 by omega,List.getElem?_cons_succ]};rw[gY h1,gY (by omega)]
theorem setCells_size (g:dw):∀(vs:fo aa) (o:dw) (w:ac),(w.setCells g o vs).heap.size=w.heap.size/\(w.setCells g o vs).tape=w.tape
 |[],o,w=>⟨lc,lc⟩
 |v::r,o,w=>by obtain⟨d,q⟩:=setCells_size g r (o+1) (w.setCell ⟨g,o,ε⟩ v);exact⟨d.trans (by simp),q.trans lc⟩
def jo (w:ac) (e:ao) (size:dw) (v:aa) (n:dw) (xs:fo aa):Prop:=xs.length=n*size/\((v=Δ ε 0 0/\n=0)\/∃g off cap cur,v=Δ (ζ ⟨g,off,ε⟩) n cap/\w.heap[g]?=ζ (.cells cur e (0,0))/\n<=cap/\cap<=bm/\off+cap*size<=cur.size/\∀j u,xs[j]?=ζ u->cur[off+j]?=ζ u)
section
variable {w w':ac} {e:ao} {size n:dw} {v:aa} {xs:fo aa}
theorem jo.of {base:dw} (h:w.ownsRow base e size v n xs):jo w e size v n xs:=by refine⟨h.1,h.2.imp id ?_⟩;rintro⟨g,cap,cur,rfl,_,q,r,z,B,C⟩;refine⟨g,0,cap,cur,lc,q,r,z,by rw[B];omega,λj u d=>?_⟩;rw[<-C,List.getElem?_take]at d;split at d;{simpa using d};cases d
theorem jo.block (h:jo w e size v n xs) (k:∀g,v.ownBlock=ζ g->w'.heap[g]?=w.heap[g]?):jo w' e size v n xs:=by refine⟨h.1,h.2.imp id ?_⟩;rintro⟨g,off,cap,cur,rfl,d,q⟩;exact⟨g,off,cap,cur,lc,(k g lc).trans d,q⟩
theorem jo.lt (h:jo w e size v n xs) (d:v.ownBlock=ζ g):g<w.heap.size:=by rcases h.2 with⟨rfl,_⟩|⟨r,off,cap,cur,rfl,q,_⟩;{cases d};cases d;exact(j5 q).1
theorem jo.ty (h:jo w e size v n xs) (d:v.ownBlock=ζ g):∃cur,w.heap[g]?=ζ (.cells cur e (0,0)):=by rcases h.2 with⟨rfl,_⟩|⟨r,off,cap,cur,rfl,q,_⟩;{cases d};cases d;exact⟨cur,q⟩
theorem jo.shape (h:jo w e size v n xs):∃r cp,v=.slice r n cp/\n<=cp/\cp<=bm:=by rcases h.2 with⟨rfl,rfl⟩|⟨z,off,cap,cur,rfl,_,d,q,_⟩;{exact⟨_,_,lc,jg _,by decide⟩};exact⟨_,_,lc,d,q⟩
theorem jo.cells {g off m cap:dw} (h:jo w e size (Δ (ζ ⟨g,off,ε⟩) m cap) n xs):∀j u,xs[j]?=ζ u->w.cell? ⟨g,off+j,ε⟩=ζ u:=λj u z=>by rcases h.2 with⟨e,_⟩|⟨C,d,B,cur,e,q,D,E,G,r⟩;{cases e};cases e;simp[al,q,r j u z]
theorem jo.cut {sa:gI Addr} {cp:dw} {r:gI Addr} (h:jo w e size (.slice sa n cp) n xs) (U:i<=n) (z:∀g off,sa=ζ ⟨g,off,ε⟩->r=if cp=i then ζ ⟨g,off,ε⟩else ζ ⟨g,off+i*size,ε⟩) (E:sa=ε->r=ε):jo w e size (.slice r (n-i) (cp-i)) (n-i) (xs.drop (i*size)):=by
 refine⟨by rw[List.length_drop,h.1,Nat.sub_mul],?_⟩;rcases h.2 with⟨q,rfl⟩|⟨g,off,cap,cur,q,B,M,O,T,D⟩;{cases q;exact ι ⟨by rw[E lc];simp,by omega⟩}
 .injection q with G V J;subst G J;refine κ ?_;by_cases hc:cp=i
  .have C:n=i:=by omega
   refine⟨g,off,0,cur,?_,B,by omega,xzl _,?_,λj u d=>?_⟩;{rw[z g off lc,jb hc,hc,Nat.sub_self]};{have:=xzl (cp*size);omega};rw[cU]at d;have:=(aq.1 d).1;rw[h.1,C]at this;omega
  .refine⟨g,off+i*size,cp-i,cur,by rw[z g off lc,gY hc],B,by omega,by omega,?_,λj u d=>?_⟩;{rw[Nat.sub_mul];have:i*size<=cp*size:=cM _ (by omega);omega};rw[cU]at d;rw[Nat.add_assoc];exact D _ u d
end
section
variable {P:dP} (w:ac)
theorem qo4 (t ty e:ao) (i:TypeInfo) (z:aa) (size bytes:dw) (G:P.underlying t=ζ (.slice e)) (O:P.info? e=ζ i) (hz:i.zero=ζ z)
  (sN:i.size=size) (V:i.bytes=bytes) (X:z.cells.size=size) (v:aa) (n:dw) (xs:fo aa) (q:jo w e size v n xs)
  (ad:Addr) (c:dw) (news:fo aa) (hl:news.length=size) (lT:∀j u,news[j]?=ζ u->w.cell? (ad.add j)=ζ u) (h1:∀u∈news,u.oneCell'=η)
  (M:n+1<=bm) (lq:(n+1)*bytes<=140737488355328):
  ∃g off cap w',(Builtin.append_ #[t,t] ty #[v,.slice (ζ ad) 1 c]).run P w=.ok (Δ (ζ ⟨g,off,ε⟩) (n+1) cap) w'/\
   jo w' e size (Δ (ζ ⟨g,off,ε⟩) (n+1) cap) (n+1) (xs++news)/\w.grownBy w' v.ownBlock/\(v.ownBlock=ζ g\/g=w.heap.size):=by
 subst sN;subst V;have hlen:(xs++news).length=(n+1)*i.size:=by rw[aB,q.1,hl,Nat.add_mul,Nat.one_mul]
 have U:_root_.Go.Src P i.size t (.slice (ζ ad) 1 c) 1 news w:=_root_.Go.Src.ofSlice w G ad 1 c news (by omega) lT h1;have grow:∀(base:gI Addr) (old:dw),old<n+1->(Builtin.firstCells i.size n (.slice base n old)).run P w.drew=.ok xs.toArray w.drew->∃g off cap w',(Builtin.append_ #[t,t] ty #[.slice base n old,.slice (ζ ad) 1 c]).run P w=.ok (Δ (ζ ⟨g,off,ε⟩) (n+1) cap) w'/\
   jo w' e i.size (Δ (ζ ⟨g,off,ε⟩) (n+1) cap) (n+1) (xs++news)/\w.grownBy w' (bF (.slice base n old))/\(bF (.slice base n old)=ζ g\/g=w.heap.size):=λbase old T hold=>by
  have E:=run_append_grow_src (P:=P) w t t ty e i z G O hz base n old xs hold (.slice (ζ ad) 1 c) 1 news U T (by simp only[bm]at M;omega) (growslice_fits T lq);have oZ:=grownCap_ge w (n+1) old e;have r:=grownCap_le_maxLen w (n+1) old e M;refine⟨_,_,_,_,E,⟨hlen,κ ⟨w.heap.size,0,_,_,lc,_root_.Go.heap_alloc_new w.drew _,oZ,r,?_,λj u d=>?_⟩⟩,⟨lc,lc,lc,by simp,λk D _=>_root_.Go.heap_alloc_old w.drew _ D⟩,κ lc⟩;{simp only[Array.size_append,List.size_toArray,size_zeroCells,X,hlen,<-Nat.add_mul];rw[show n+1+(grownCap w (n+1) old e-(n+1))=grownCap w (n+1) old e by omega];omega};rw[az,aK (by simpa using(aq.1 d).1)];simpa using d
 rcases q.2 with⟨rfl,rfl⟩|⟨g,off,cap,cur,rfl,B,G8,r,iw,hx⟩;{have J:xs=[]:=aV (by simpa using q.1);exact grow ε 0 (by omega) (by rw[J];exact run_firstCells_none w.drew i.size 0 0 0)}
 .by_cases oC:n+1<=cap
  .have zG:off+n*i.size+news.length<=cur.size:=by have:(n+1)*i.size<=cap*i.size:=cM _ oC;rw[Nat.add_mul,Nat.one_mul]at this;omega
   have E:=run_append_room_src (P:=P) w t t ty e i G O g off n cap (.slice (ζ ad) 1 c) 1 news U oC (λj C=>by
    have:off+n*i.size+j<cur.size:=by omega
    simp[al,B,this]) (λj C=>by simp[bz,B])
   obtain⟨kX,Y,a2,a3⟩:=Yp g news (off+n*i.size) w cur e (0,0) B zG;have hxl:=q.1;refine⟨g,off,cap,_,E,⟨hlen,κ ⟨g,off,cap,kX,lc,Y,oC,r,by rw[a2];exact iw,λj u d=>?_⟩⟩,⟨World.os_setCells w g _ news,?_,World.output_setCells w g _ news,?_,λk D fG=>World.heap_setCells_other w g _ news D λe=>fG (by rw[e];rfl)⟩,ι lc⟩;{rw[a3];by_cases C:j<xs.length;{rw[gY (by omega)];rw[aM C]at d;exact hx j u d};rw[aL (by omega)]at d;have:=(aq.1 d).1;rw[jb (by omega),show off+j-(off+n*i.size)=j-xs.length by omega];exact d};{exact(setCells_size g news _ w).2};exact Nat.le_of_eq (setCells_size g news _ w).1.symm
  .have hold:(Builtin.firstCells i.size n (Δ (ζ ⟨g,off,ε⟩) n cap)).run P w.drew=.ok xs.toArray w.drew:=run_firstCells_some w.drew i.size n ⟨g,off,ε⟩ n cap xs q.1 λj u d=>by rw[aj];exact(q.cells j u d)
   exact grow _ cap (by omega) hold
end
section
variable {P:dP} (w:ac)
theorem qp7 {K:Act->ac->Prop} (s x:bV) (t:ao)
  (T:o.op=.call {callee:=.builtin .append,args:=#[s,x],argTypes:=#[t,t]})
  (e:ao) (i:TypeInfo) (z:aa) (size bytes:dw) (X:P.underlying t=ζ (.slice e)) (M:P.info? e=ζ i) (hz:i.zero=ζ z)
  (sN:i.size=size) (q:i.bytes=bytes) (B:z.cells.size=size)
  (v:aa) (n:dw) (xs:fo aa) (V:a.eval s=v) (C:jo w e size v n xs)
  (ad:Addr) (c:dw) (news:fo aa) (Y:a.eval x=.slice (ζ ad) 1 c) (O:news.length=size) (lT:∀j u,news[j]?=ζ u->w.cell? (ad.add j)=ζ u) (D:∀u∈news,u.oneCell'=η)
  (r:n+1<=bm) (lq:(n+1)*bytes<=140737488355328) (H:dw) (J:w.heap.size=H)
  (h:∀g off cap w',jo w' e size (Δ (ζ ⟨g,off,ε⟩) (n+1) cap) (n+1) (xs++news)->w.grownBy w' v.ownBlock->(v.ownBlock=ζ g\/g=H)->K (a.put o.dst (Δ (ζ ⟨g,off,ε⟩) (n+1) cap)) w'):o.wp P a w K Q:=by
 obtain⟨g,off,cap,w',U,E,G,d⟩:=qo4 (P:=P) w t o.type e i z size bytes X M hz sN q B v n xs C ad c news O lT D r lq;rw[J]at d;unfold Oper.wp ae;simp only[T,resolve,invoke,builtin,Sem.run_bind,Sem.run_pure,Result.andThen_ok,List.map_toArray,dG,dO,V,Y,U];exact h g off cap w' E G d
theorem Yx {K:Act->ac->Prop} {E:Prop} (B:o.guard=ε) (s x:bV) (t:ao)
  (O:o.op=.call {callee:=.builtin .append,args:=#[s,x],argTypes:=#[t,t]})
  (e:ao) (i:TypeInfo) (z:aa) (size bytes:dw) (U:P.underlying t=ζ (.slice e)) (J:P.info? e=ζ i) (Y:i.zero=ζ z)
  (sN:i.size=size) (d:i.bytes=bytes) (r:z.cells.size=size)
  (v:aa) (n:dw) (xs:fo aa) (T:a.eval s=v) (C:jo w e size v n xs)
  (ad:Addr) (c:dw) (news:fo aa) (X:a.eval x=.slice (ζ ad) 1 c) (M:news.length=size) (lT:∀j u,news[j]?=ζ u->w.cell? (ad.add j)=ζ u) (D:∀u∈news,u.oneCell'=η)
  (q:n+1<=bm) (lq:(n+1)*bytes<=140737488355328) (H:dw) (G:w.heap.size=H)
  (h:∀g off cap w',jo w' e size (Δ (ζ ⟨g,off,ε⟩) (n+1) cap) (n+1) (xs++news)->w.grownBy w' v.ownBlock->(v.ownBlock=ζ g\/g=H)->K (a.put o.dst (Δ (ζ ⟨g,off,ε⟩) (n+1) cap)) w'):
  if ah o (aS ops a.tmps)=η then Oper.wp P o a w K Q else E:=by
 have V:ah o (aS ops a.tmps)=η:=by simp[ah,B]
 rw[jb V];exact qp7 w s x t O e i z size bytes U J Y sN d r v n xs T C ad c news X M lT D q lq H G h
end
structure Chg where
 k:Bs
 v:Bs
 g:je
structure Mv where
 id:dw
 fr:dw
 to:dw
 ps:KV
 cs:fo Chg
 sent:Bs
 n:dw
 kind:dw
 parts:dw
 sealed:je
structure Sg where
 id:dw
 next:dw
 kv:KV
 done:je
structure St where
 hosts:dw
 ow:dw->dw
 kv:dw->KV
 mv:dw->gI Mv
 sg:dw->dw->gI Sg
 id:dw
 ep:dw
def kg (l:fo Chg):fo aa:=l.flatMap λc=>[sv c.k,sv c.v,χ c.g]
structure PA where
 cl:dw
 db:dw->dw
 mb:dw->dw
 mp:dw->gI dw
 pv:dw->aa
 cv:dw->aa
 ld:dw->bn
 sm:dw
 sP:dw->dw->dw×dw×dw
def zm (A:PA) (s:St):gF aa:=
 #[σ υ s.hosts,σ υ (s.ow 0),ptr (ζ (A.db 0)),ptr (A.mp 0),σ υ (s.ow 1),ptr (ζ (A.db 1)),ptr (A.mp 1),σ υ (s.ow 2),ptr (ζ (A.db 2)),ptr (A.mp 2),σ υ (s.ow 3),ptr (ζ (A.db 3)),ptr (A.mp 3),.map (ζ A.sm),σ υ s.id,σ υ s.ep]
def qw (k:dw) (pv cv:aa) (ld:bn) (m:Mv):gF aa:=
 #[σ υ m.id,σ υ m.fr,σ υ m.to,pv,cv,σ Ξ m.kind,σ υ k,σ υ m.id,σ υ m.n,Γ ld,sv m.sent,σ υ m.parts,χ m.sealed]
def nV (w:ac) (v:aa) (l:KV):Prop:=jo w 74 2 v l.length (flat l)
def sV (w:ac) (v:aa) (l:fo Chg):Prop:=jo w 87 3 v l.length (kg l)
def GU (w:ac) (v:aa) (l:fo Chg):Prop:=w.ownsRow 0 87 3 v l.length (kg l)
def mM (w:ac) (F:dw->Prop) (A:PA) (i:dw):gI Mv->Prop
 |none=>A.mp i=ε/\(A.cv i).ownBlock=ε
 |some m=>∃g,A.mp i=ζ g/\F g/\w.heap[g]?=ζ (.cells (qw i (A.pv i) (A.cv i) (A.ld i) m) 135 (0,0))/\nV w (A.pv i) m.ps/\sV w (A.cv i) m.cs/\(∀b,(A.pv i).ownBlock=ζ b->F b)/\∀b,(A.cv i).ownBlock=ζ b->F b
structure jO (w:ac) (sb db mb id next:dw) (done:je) (kv:KV):Prop where
 s:w.heap[sb]?=ζ (ω #[σ υ id,σ υ next,ξ (ζ ⟨db,0,ε⟩),χ done] 157 (0,0))
 d:w.heap[db]?=ζ (ω #[.map (ζ mb)] 142 (0,0))
 m:zk w mb kv
structure tZ (w:ac) (F:dw->Prop) (A:PA) (sg:dw->dw->gI Sg):Prop where
 f:F A.sm
 m:lH w A.sm λh k=>(sg h k).map λ_=>(A.sP h k).1
 e:∀h k x,h<4->k<4->sg h k=ζ x->(F (A.sP h k).1/\F (A.sP h k).2.1/\F (A.sP h k).2.2)/\jO w (A.sP h k).1 (A.sP h k).2.1 (A.sP h k).2.2 x.id x.next x.done x.kv
 i:∀h k a b,h<4->k<4->a<4->b<4->(sg h k).isSome=η->(sg a b).isSome=η->(A.sP h k).1=(A.sP a b).1\/(A.sP h k).2.2=(A.sP a b).2.2->h=a/\k=b
 n:∀h k,h<4->k<4->(sg h k).isSome=η->A.sm≠(A.sP h k).2.2/\∀i,i<4->A.mb i≠(A.sP h k).2.2
structure zx (w:ac) (F:dw->Prop) (A:PA) (s:St):Prop where
 cl:F A.cl/\w.heap[A.cl]?=ζ (.cells (zm A s) 83 (0,0))
 db:∀i,i<4->F (A.db i)/\w.heap[A.db i]?=ζ (ω #[.map (ζ (A.mb i))] 142 (0,0))
 mb:∀i,i<4->F (A.mb i)/\zk w (A.mb i) (s.kv i)
 mbi:∀i j,i<4->j<4->A.mb i=A.mb j->i=j
 mv:∀i,i<4->mM w F A i (s.mv i)
 mpi:∀i j g,i<4->j<4->A.mp i=ζ g->A.mp j=ζ g->i=j
 cvi:∀i j g,i<4->j<4->(A.cv i).ownBlock=ζ g->(A.cv j).ownBlock=ζ g->i=j
 yc:tZ w F A s.sg
 smb:∀i,i<4->A.mb i≠A.sm
section
variable {w w':ac} {F F':dw->Prop} {A:PA} {s:St}
theorem nV.block {v:aa} {l:KV} (h:nV w v l) (k:∀g,v.ownBlock=ζ g->w'.heap[g]?=w.heap[g]?):nV w' v l:=jo.block h k
theorem sV.block {v:aa} {l:fo Chg} (h:sV w v l) (k:∀g,v.ownBlock=ζ g->w'.heap[g]?=w.heap[g]?):sV w' v l:=jo.block h k
theorem GU.block {v:aa} {l:fo Chg} (h:GU w v l) (k:∀g,v.ownBlock=ζ g->w'.heap[g]?=w.heap[g]?):GU w' v l:=qi h k
theorem mM.frame {m:gI Mv} (h:mM w F A i m) (k:∀b,F b->w'.heap[b]?=w.heap[b]?):mM w' F A i m:=by
 cases m with
 |none=>exact h
 |some m=>obtain⟨g,B,q,C,D,E,r,z⟩:=h;exact⟨g,B,q,(k g q).trans C,D.block λb d=>k b (r b d),E.block λb d=>k b (z b d),r,z⟩
theorem mM.mono {m:gI Mv} (h:mM w F A i m) (k:∀b,F b->F' b):mM w F' A i m:=by
 cases m with
 |none=>exact h
 |some m=>obtain⟨g,q,r,z,B,C,D,E⟩:=h;exact⟨g,q,k _ r,z,B,C,λb d=>k b (D b d),λb d=>k b (E b d)⟩
theorem jO.block {sb db id next:dw} {done:je} {kv:KV} (h:jO w sb db mb id next done kv) (k:∀b,b=sb\/b=db\/b=mb->w'.heap[b]?=w.heap[b]?):jO w' sb db mb id next done kv:=⟨(k _ (ι rfl)).trans h.s,(k _ (κ (ι rfl))).trans h.d,h.m.block (k _ (κ (κ lc)))⟩
theorem tZ.frame {sg:dw->dw->gI Sg} (h:tZ w F A sg) (k:∀b,F b->w'.heap[b]?=w.heap[b]?) (hF:∀b,F b->F' b):tZ w' F' A sg:=
 ⟨hF _ h.f,h.m.block (k _ h.f),λa b x C D G=>by
  obtain⟨⟨d,r,z⟩,B⟩:=h.e a b x C D G
  exact⟨⟨hF _ d,hF _ r,hF _ z⟩,B.block λq E=>k q (by rcases E with rfl|rfl|rfl<;>assumption)⟩,h.i,h.n⟩
theorem tZ.keep {sg:dw->dw->gI Sg} {C:PA} (h:tZ w F A sg) (O:∀(b:dw) (cur:gF aa) (ty:ao),w.heap[b]?=ζ (Obj.cells cur ty (0,0))->ty=157\/ty=142->w'.heap[b]?=w.heap[b]?)
  (M:∀b,(∃D z,w.heap[b]?=ζ (Obj.map D z))->(b=A.sm\/∃x y,x<4/\y<4/\(sg x y).isSome=η/\b=(A.sP x y).2.2)->w'.heap[b]?=w.heap[b]?) (hF:∀b,F b->F' b) (B:C.sm=A.sm) (r:C.sP=A.sP) (T:C.mb=A.mb):tZ w' F' C sg:=by
 refine⟨B▸hF _ h.f,?_,λa b x E G J=>?_,by rw[r];exact h.i,by rw[B,r,T];exact h.n⟩;{rw[B,r];exact h.m.block (M _ h.m.map (ι lc))};rw[r];obtain⟨⟨V,X,Y⟩,q⟩:=h.e a b x E G J;obtain⟨D,z,U,_⟩:=q.m;exact⟨⟨hF _ V,hF _ X,hF _ Y⟩,(O _ _ _ q.s (ι lc)).trans q.s,(O _ _ _ q.d (κ lc)).trans q.d,q.m.block (M _ ⟨D,z,U⟩ (κ ⟨a,b,E,G,by rw[J];rfl,lc⟩))⟩
theorem tZ.lts {sg:dw->dw->gI Sg} (h:tZ w F A sg):tZ w (λb=>F b/\b<w.heap.size) A sg:=
 ⟨⟨h.f,h.m.lt⟩,h.m,λa b x C D E=>by
  obtain⟨⟨r,z,B⟩,q⟩:=h.e a b x C D E
  exact⟨⟨⟨r,(j5 q.s).1⟩,⟨z,(j5 q.d).1⟩,⟨B,q.m.lt⟩⟩,q⟩,h.i,h.n⟩
theorem zx.frame (h:zx w F A s) (k:∀b,F b->w'.heap[b]?=w.heap[b]?):zx w' F A s:=
 ⟨⟨h.cl.1,(k _ h.cl.1).trans h.cl.2⟩,λi d=>⟨(h.db i d).1,(k _ (h.db i d).1).trans (h.db i d).2⟩,λi d=>⟨(h.mb i d).1,(h.mb i d).2.block (k _ (h.mb i d).1)⟩,h.mbi,λi d=>(h.mv i d).frame k,h.mpi,h.cvi,h.yc.frame k λ_ h=>h,h.smb⟩
theorem zx.mono (h:zx w F A s) (k:∀b,F b->F' b):zx w F' A s:=
 ⟨⟨k _ h.cl.1,h.cl.2⟩,λi d=>⟨k _ (h.db i d).1,(h.db i d).2⟩,λi d=>⟨k _ (h.mb i d).1,(h.mb i d).2⟩,h.mbi,λi d=>(h.mv i d).mono k,h.mpi,h.cvi,h.yc.frame (λ_ _=>lc) k,h.smb⟩
theorem zx.clt (h:zx w F A s):A.cl<w.heap.size:=(j5 h.cl.2).1
theorem mM.lt {m:gI Mv} (h:mM w F A i m):mM w (λb=>F b/\b<w.heap.size) A i m:=by
 cases m with
 |none=>exact h
 |some m=>obtain⟨g,B,C,q,r,z,D,E⟩:=h;exact⟨g,B,⟨C,(j5 q).1⟩,q,r,z,λb d=>⟨D b d,jo.lt r d⟩,λb d=>⟨E b d,jo.lt z d⟩⟩
theorem zx.lts (h:zx w F A s):zx w (λb=>F b/\b<w.heap.size) A s:=
 ⟨⟨⟨h.cl.1,h.clt⟩,h.cl.2⟩,λi d=>⟨⟨(h.db i d).1,(j5 (h.db i d).2).1⟩,(h.db i d).2⟩,λi d=>⟨⟨(h.mb i d).1,(h.mb i d).2.lt⟩,(h.mb i d).2⟩,h.mbi,λi d=>(h.mv i d).lt,h.mpi,h.cvi,h.yc.lts,h.smb⟩
theorem zx.below (h:zx w F A s) (q:aC w.heap.size w w'):zx w' F A s:=(h.lts.frame λb d=>q.block b d.2).mono λ_ h=>h.1
theorem zx.cells (h:zx w F A s) (j:dw) (v:aa) (d:(zm A s)[j]?=ζ v):w.cell? ⟨A.cl,j,ε⟩=ζ v/\w.frozen? ⟨A.cl,j,ε⟩=θ:=⟨by simp[al,h.cl.2,d],by simp[bz,h.cl.2]⟩
theorem Jw (A:PA) (s:St) (i:dw) (d:i<4):(zm A s)[1+i*3]?=ζ (σ υ (s.ow i))/\(zm A s)[1+i*3+1]?=ζ (ptr (ζ (A.db i)))/\(zm A s)[1+i*3+2]?=ζ (ptr (A.mp i)):=by
 match i,d with
 |0,_|1,_|2,_|3,_=>exact⟨lc,lc,lc⟩
theorem zx.part (h:zx w F A s) (i:dw) (d:i<4):vC w A.cl i (A.db i) (A.mb i) (mpA (A.mp i)) (s.kv i):=by obtain⟨_,q,r⟩:=Jw A s i d;exact⟨(h.cells _ _ q).1,by rw[<-Iy];exact(h.cells _ _ r).1,by simp[al,(h.db i d).2],(h.mb i d).2⟩
end
end Go.Proofs.YtkpekiajdlolnabGreat
