/- PROVED: part 5 of the claim's ground. Conditions: those that each theorem names. -/
import Derived.Test.YtkpekiajdlolnabGreatM04
import Derived.Test.YtkpekiajdlolnabGreatM03
import Derived.Deep.RegionWith
import Derived.Carry
import Derived.Deep.AppendLies
import Derived.Deep.RegionLaw
set_option linter.unusedVariables false
set_option linter.unusedSimpArgs false
set_option maxRecDepth 100000
set_option maxHeartbeats 16000000
open _root_ renaming rfl→lc,ByteArray→bn,Nat→dw,if_neg→eD,if_pos→fo,List→gF,Bool→gI,Int→gJ,Option→gU,absurd→gY,Array→iO,of_decide_eq_true→jb,False→je,decide_eq_true_eq→jC,beq_iff_eq→kw,beq_eq_false_iff_ne→ky,congrArg→kM,if_true→kT,True→kZ
variable{A:Prop} {B:dw->Prop} {C b cl hh i j n nn x:dw} {X:Go.Proofs.YtkpekiajdlolnabGreat.KV} {a:Go.Act} {cv' v3:Go.Value} {db mb:dw->dw} {g lg:gI} {k last pb lD s sb vb:bn} {l:Go.Proofs.YtkpekiajdlolnabGreat.Bs} {o:Go.Obj} {p:Go.Proofs.YtkpekiajdlolnabGreat.Bs×Go.Proofs.YtkpekiajdlolnabGreat.Bs} {w w' w1 w2 w3:Go.World}
open Go.Proofs.Tryz
open Go renaming World→aa,Value→ah,heap_alloc_new→az,Calls→aD,heap_alloc_old→aF,bytesBefore→aK,maxLen→aL,TypeId→aT,getD_set_ne→aW,execOp→bh,ownsRow_setCell_other→bj,wp_region_still_tail→bB,wpList_append_own→bE,Ending→bR,undef→ce,bodyPost_ret→cx,wpStill_nil→cF,Operand→cK,mem_ready→de
open And renaming intro→ac
open Go.World renaming cell?→ae,frozen?→al,ownsRow_nil→aN
open List renaming getElem?_eq_some_iff→ai,length_append→aj,getD_eq_getElem?_getD→au,drop_eq_getElem_cons→ax,getElem?_eq_getElem→aA,mem_of_getElem?→aB,take_succ_cons→aE,pairwise_iff_getElem→aI,getElem?_eq_none→aM,getElem?_append_right→aO,getElem?_append_left→aS,mem_singleton→aU,range→aV,take_of_length_le→aY,append_assoc→aZ,getElem_mem→bp,length_cons→bw,all_eq_true→bA,drop_succ_cons→bC,length_drop→bF,length_take→bG,mem_append→bL,length_nil→bN,append_nil→bO,length_filter_le→bQ,take_zero→bX,drop_zero→bY,getElem?_drop→cg,getElem?_map→cE,length_set→cG,mem_range→cQ,mem_cons→dc
open Bool renaming and_eq_true→am,not_eq_true'→cu,and_false→cN
open Go.Obj renaming cells→ao
open Option renaming bind_eq_some_iff→aq,bind_some→aw,map_eq_some_iff→aH,bind_none→bz,getD_some→bH,map_some→bP
open Go.RowKit renaming Below→ay
open ByteArray renaming getElem_eq_getElem_data→aC,size→aQ,data_append→bm
open Go.ByteArray renaming toList_eq→aG
open Array renaming getElem?_push→aJ,getElem?_eq_none→aX,getElem?_toList→bk,toList_append→bZ,replicate→cH,getD→dx,ext→dG
open Go.Code renaming region→aP,wp→cJ
open Go.World.ownsRow renaming lt→aR
open Go.Region renaming ready→bg,binds→cB
open Int renaming toNat_natCast→bi,lt_or_le→cn
open Go.RowKit.Below renaming drew→bD
open Nat renaming lt_or_ge→bI,pow_succ→bK,mul_le_mul_right→bV,lt_of_le_of_lt→cj,zero_add→co,lt_irrefl→da
open Go.Value renaming int→σ,bool→χ,slice→Δ,pointer→ξ,agg→Θ,tuple→ο,string→Γ
open Go.IntKind renaming i64→υ,u8→Ξ
open Option renaming none→ε,some→ζ
open Bool renaming true→η,false→θ
open Go.Obj renaming cells→ω
open Go.Ending renaming returned→ψ
open Decidable renaming decide→ν
namespace Go.Proofs.YtkpekiajdlolnabGreat
section
open Go.RowKit Go.Maps
structure RSg where
 h:dw
 k:dw
 x:Sg
 v:ah
def vk (l:gF RSg):gF ah:=l.flatMap λe=>[σ υ e.h,σ υ e.k,σ υ e.x.id,σ υ e.x.next,e.v,χ e.x.done]
structure MA where
 ml:dw
 sb:dw
 lv:dw->ah
 mp:dw->gU dw
 pv:dw->ah
 cv:dw->ah
 sg:ah
 cap:dw
 sl:gF RSg
def yG (B:MA) (s:St):iO ah:=#[σ υ s.hosts,Δ (ζ ⟨B.sb,0,ε⟩) 4 B.cap,B.sg,σ υ s.id,σ υ s.ep]
def qz (pv cv:ah) (m:Mv):iO ah:=#[σ υ m.id,σ υ m.fr,σ υ m.to,pv,cv,sv m.sent,σ υ m.n,σ υ m.kind,σ υ m.parts,χ m.sealed]
def pX (w:aa) (v:ah) (l:gF Chg):Prop:=jo w 60 3 v l.length (kg l)
def nC (w:aa) (v:ah) (l:gF Chg):Prop:=w.ownsRow 0 60 3 v l.length (kg l)
def nP (w:aa) (F:dw->Prop) (B:MA) (i:dw):gU Mv->Prop
 |none=>B.mp i=ε/\(B.cv i).ownBlock=ε
 |some m=>∃g,B.mp i=ζ g/\F g/\w.heap[g]?=ζ (.cells (qz (B.pv i) (B.cv i) m) 110 (0,0))/\nV w (B.pv i) m.ps/\pX w (B.cv i) m.cs/\(∀b,(B.pv i).ownBlock=ζ b->F b)/\∀b,(B.cv i).ownBlock=ζ b->F b
structure ve (w:aa) (F:dw->Prop) (B:MA) (sg:dw->dw->gU Sg):Prop where
 r:w.ownsRow 0 191 6 B.sg B.sl.length (vk B.sl)
 rF:∀b,B.sg.ownBlock=ζ b->F b
 e:∀e∈B.sl,e.h<4/\e.k<4/\sg e.h e.k=ζ e.x/\yx w 0 e.v e.x.kv/\∀b,e.v.ownBlock=ζ b->F b
 nd:B.sl.Pairwise λa b=>¬(a.h=b.h/\a.k=b.k)
 all:∀h k,h<4->k<4->(sg h k).isSome=η->∃e∈B.sl,e.h=h/\e.k=k
structure ku (w:aa) (F:dw->Prop) (B:MA) (s:St):Prop where
 ml:F B.ml/\w.heap[B.ml]?=ζ (.cells (yG B s) 101 (0,0))
 sb:F B.sb/\∃cur,w.heap[B.sb]?=ζ (.cells cur 104 (0,0))/\∀i,i<4->cur[i*3]?=ζ (σ υ (s.ow i))/\cur[i*3+1]?=ζ (B.lv i)/\cur[i*3+2]?=ζ (ξ (mpA (B.mp i)))
 r:∀i,i<4->yx w 0 (B.lv i) (s.kv i)/\∀b,(B.lv i).ownBlock=ζ b->F b
 mv:∀i,i<4->nP w F B i (s.mv i)
 mpi:∀i j g,i<4->j<4->B.mp i=ζ g->B.mp j=ζ g->i=j
 cvi:∀i j g,i<4->j<4->(B.cv i).ownBlock=ζ g->(B.cv j).ownBlock=ζ g->i=j
 yc:ve w F B s.sg
section
variable {w w':aa} {F F':dw->Prop} {B:MA} {s:St} {n:dw}
theorem pX.block {v:ah} {l:gF Chg} (h:pX w v l) (k:∀g,v.ownBlock=ζ g->w'.heap[g]?=w.heap[g]?):pX w' v l:=jo.block h k
theorem nC.block {v:ah} {l:gF Chg} (h:nC w v l) (k:∀g,v.ownBlock=ζ g->w'.heap[g]?=w.heap[g]?):nC w' v l:=qi h k
theorem nP.frame {m:gU Mv} (h:nP w F B i m) (k:∀b,F b->w'.heap[b]?=w.heap[b]?):nP w' F B i m:=by
 cases m with
 |none=>exact h
 |some m=>obtain⟨g,D,u,E,G,H,y,z⟩:=h;exact⟨g,D,u,(k g u).trans E,G.block λb t=>k b (y b t),H.block λb t=>k b (z b t),y,z⟩
theorem nP.mono {m:gU Mv} (h:nP w F B i m) (k:∀b,F b->F' b):nP w F' B i m:=by
 cases m with
 |none=>exact h
 |some m=>obtain⟨g,u,y,z,D,E,G,H⟩:=h;exact⟨g,u,k _ y,z,D,E,λb t=>k b (G b t),λb t=>k b (H b t)⟩
theorem nP.lt {m:gU Mv} (h:nP w F B i m):nP w (λb=>F b/\b<w.heap.size) B i m:=by
 cases m with
 |none=>exact h
 |some m=>obtain⟨g,D,E,u,y,z,G,H⟩:=h;exact⟨g,D,⟨E,(j5 u).1⟩,u,y,z,λb t=>⟨G b t,jo.lt y t⟩,λb t=>⟨H b t,jo.lt z t⟩⟩
theorem nP.same {C:MA} {m:gU Mv} (h:nP w F B i m) (y:C.mp i=B.mp i) (u:C.pv i=B.pv i) (t:C.cv i=B.cv i):nP w F C i m:=by
 cases m with
 |none=>exact⟨y.trans h.1,by rw[t];exact h.2⟩
 |some m=>obtain⟨g,z,D,E,G,H,I,K⟩:=h;exact⟨g,y.trans z,D,by rw[u,t];exact E,by rw[u];exact G,by rw[t];exact H,by rw[u];exact I,by rw[t];exact K⟩
theorem nP.keep {m:gU Mv} (h:nP w F B i m) (K:∀b cur,B.mp i=ζ b->w.heap[b]?=ζ (ao cur 110 (0,0))->w'.heap[b]?=w.heap[b]?) (M:∀b cur,(B.pv i).ownBlock=ζ b->w.heap[b]?=ζ (ao cur 74 (0,0))->w'.heap[b]?=w.heap[b]?) (N:∀b cur,(B.cv i).ownBlock=ζ b->w.heap[b]?=ζ (ao cur 60 (0,0))->w'.heap[b]?=w.heap[b]?):nP w' F B i m:=by
 cases m with
 |none=>exact h
 |some m=>obtain⟨g,y,G,z,D,E,H,I⟩:=h;refine⟨g,y,G,(K g _ y z).trans z,D.block λb t=>?_,E.block λb t=>?_,H,I⟩;{obtain⟨c,u⟩:=jo.ty D t;exact M b _ t u};obtain⟨c,u⟩:=jo.ty E t;exact N b _ t u
theorem ve.keep {C:MA} {sg:dw->dw->gU Sg} (h:ve w F B sg) (H:∀(b:dw) (cur:iO ah) (ty:aT),w.heap[b]?=ζ (ao cur ty (0,0))->F b->ty=191\/ty=74->w'.heap[b]?=w.heap[b]?) (hF:∀b,F b->F' b) (G:C.sg=B.sg) (u:C.sl=B.sl):ve w' F' C sg:=by
 refine⟨?_,by rw[G];exact λb y=>hF b (h.rF b y),?_,by rw[u];exact h.nd,by rw[u];exact h.all⟩;{rw[G,u];refine qi h.r λg t=>?_;obtain⟨c,z⟩:=xh h.r t;exact H g c _ z (h.rF g t) (.inl lc)}
 .rw[u];intro e N;obtain⟨I,K,M,D,E⟩:=h.e e N;exact⟨I,K,M,D.block λg t=>by
   obtain⟨c,z⟩:=D.ty t
   exact H g c _ z (E g t) (.inr lc),λb y=>hF b (E b y)⟩
theorem ve.lts {sg:dw->dw->gU Sg} (h:ve w F B sg):ve w (λb=>F b/\b<w.heap.size) B sg:=
 ⟨h.r,λb t=>⟨h.rF b t,(aR h.r b t).2⟩,λe G=>by
  obtain⟨y,z,D,u,E⟩:=h.e e G
  exact⟨y,z,D,u,λb t=>⟨E b t,(aR u.1 b t).2⟩⟩,h.nd,h.all⟩
theorem ku.frame (h:ku w F B s) (k:∀b,F b->w'.heap[b]?=w.heap[b]?):ku w' F B s:=
 ⟨⟨h.ml.1,(k _ h.ml.1).trans h.ml.2⟩,⟨h.sb.1,h.sb.2.choose,(k _ h.sb.1).trans h.sb.2.choose_spec.1,h.sb.2.choose_spec.2⟩,λi t=>⟨(h.r i t).1.block λg y=>k g ((h.r i t).2 g y),(h.r i t).2⟩,λi t=>(h.mv i t).frame k,h.mpi,h.cvi,h.yc.keep (λb _ _ _ u _=>k b u) (λ_ h=>h) lc lc⟩
theorem ku.mono (h:ku w F B s) (k:∀b,F b->F' b):ku w F' B s:=
 ⟨⟨k _ h.ml.1,h.ml.2⟩,⟨k _ h.sb.1,h.sb.2⟩,λi t=>⟨(h.r i t).1,λb u=>k b ((h.r i t).2 b u)⟩,λi t=>(h.mv i t).mono k,h.mpi,h.cvi,h.yc.keep (λ_ _ _ _ _ _=>lc) k lc lc⟩
theorem ku.lts (h:ku w F B s):ku w (λb=>F b/\b<w.heap.size) B s:=
 ⟨⟨⟨h.ml.1,(j5 h.ml.2).1⟩,h.ml.2⟩,⟨⟨h.sb.1,(j5 h.sb.2.choose_spec.1).1⟩,h.sb.2⟩,λi t=>⟨(h.r i t).1,λb u=>⟨(h.r i t).2 b u,(aR (h.r i t).1.1 b u).2⟩⟩,λi t=>(h.mv i t).lt,h.mpi,h.cvi,h.yc.lts⟩
theorem ku.below (h:ku w F B s) (u:ay w.heap.size w w'):ku w' F B s:=(h.lts.frame λb t=>u.block b t.2).mono λ_ h=>h.1
theorem ku.cells (h:ku w F B s) (j:dw) (v:ah) (t:(yG B s)[j]?=ζ v):w.cell? ⟨B.ml,j,ε⟩=ζ v/\w.frozen? ⟨B.ml,j,ε⟩=θ:=⟨by simp[ae,h.ml.2,t],by simp[al,h.ml.2]⟩
theorem ku.sbc (h:ku w F B s) (E:i<4):w.cell? ⟨B.sb,i*3,ε⟩=ζ (σ υ (s.ow i))/\w.cell? ⟨B.sb,i*3+1,ε⟩=ζ (B.lv i)/\w.cell? ⟨B.sb,i*3+2,ε⟩=ζ (ξ (mpA (B.mp i)))/\∀j,w.frozen? ⟨B.sb,j,ε⟩=θ:=by obtain⟨cur,t,u⟩:=h.sb.2;obtain⟨y,z,D⟩:=u i E;exact⟨by simp[ae,t,y],by simp[ae,t,z],by simp[ae,t,D],λj=>by simp[al,t]⟩
theorem ku.mdl (h:ku w F B s):Mdl w B.ml B.sb B.lv (λi=>mpA (B.mp i)) s.kv:=by obtain⟨cur,y,u⟩:=h.sb.2;exact⟨⟨B.cap,(h.cells 1 _ lc).1⟩,⟨_,h.ml.2⟩,⟨cur,y,λi t=>⟨(u i t).2.1,(u i t).2.2,_,(u i t).1⟩⟩,λi t=>(h.r i t).1⟩
theorem ku.store (h:ku w F B s) (hn:n<4) {v:ah} (Z:yx w 0 v X) (hF:∀b,v.ownBlock=ζ b->F b):ku (w.setCell ⟨B.sb,n*3+1,ε⟩ v) F {B with lv:=qf B.lv n v} {s with kv:=vv s.kv n X}:=by
 obtain⟨cur,E,N⟩:=h.sb.2;have V:=xhs w B.sb (n*3+1) cur 104 v E;have U:∀b,b≠B.sb->(w.setCell ⟨B.sb,n*3+1,ε⟩ v).heap[b]?=w.heap[b]?:=λb t=>xho w _ b v t;have no:∀(b:dw) (cur:iO ah) (ty:aT),w.heap[b]?=ζ (ao cur ty (0,0))->ty≠104->(w.setCell ⟨B.sb,n*3+1,ε⟩ v).heap[b]?=w.heap[b]?:=λb c ty z n1=>U b λe=>by rw[e,E]at z;have I:=xoi z;injection I with _ K;exact n1 K.symm
 have D:∀{u:ah} {l:KV},yx w 0 u l->yx (w.setCell ⟨B.sb,n*3+1,ε⟩ v) 0 u l:=λ{u l} H=>H.block λg T=>by obtain⟨c,R⟩:=H.ty T;exact no g c _ R (by decide)
 refine⟨⟨h.ml.1,(no _ _ _ h.ml.2 (by decide)).trans h.ml.2⟩,⟨h.sb.1,_,V,λi y=>?_⟩,λi y=>?_,λi y=>((h.mv i y).keep (λb c _ t=>no b c _ t (by decide)) (λb c _ t=>no b c _ t (by decide)) (λb c _ t=>no b c _ t (by decide))).same lc lc lc,h.mpi,h.cvi,h.yc.keep (λb c ty t _ Y=>no b c ty t (by rcases Y with rfl|rfl<;>decide)) (λ_ h=>h) lc lc⟩;{obtain⟨O,G,Q⟩:=N i y;have M:i*3+1<cur.size:=(j5 G).1;refine⟨by rw[xne (by omega),O],?_,by rw[xne (by omega),Q]⟩;show _=ζ (qf B.lv n v i);by_cases e:i=n;{subst e;rw[qj,xsl M]};rw[qh _ _ e,xne (by omega),G]};show yx _ 0 (qf B.lv n v i) (vv s.kv n X i)/\∀b,(qf B.lv n v i).ownBlock=ζ b->F b;unfold vv;by_cases e:i=n;{subst e;rw[fo lc,qj];exact⟨D Z,hF⟩};rw[eD e,qh _ _ e];exact⟨D (h.r i y).1,(h.r i y).2⟩
structure RX (x:dw) (pv cv:ah) (m:Mv) (w:aa):Prop where
 b:w.heap[x]?=ζ (.cells (qz pv cv m) 110 (0,0))
 r:pX w cv m.cs
theorem RX.lt {pv cv:ah} {m:Mv} (h:RX x pv cv m w):x<w.heap.size:=(j5 h.b).1
theorem RX.below {pv cv:ah} {m:Mv} (h:RX x pv cv m w) (t:ay w.heap.size w w'):RX x pv cv m w':=⟨(t.block _ h.lt).trans h.b,h.r.block λg u=>t.block g (jo.lt h.r u)⟩
theorem RX.cells {x:dw} {pv cv:ah} {m:Mv} (h:RX x pv cv m w):w.cell? ⟨x,4,ε⟩=ζ cv/\w.cell? ⟨x,9,ε⟩=ζ (χ m.sealed)/\w.frozen? ⟨x,4,ε⟩=θ:=⟨by simp[ae,h.b,qz],by simp[ae,h.b,qz],by simp[al,h.b]⟩
theorem ku.rx (h:ku w F B s) (y:n<4) {m:Mv} (u:s.mv n=ζ m):∃x,B.mp n=ζ x/\RX x (B.pv n) (B.cv n) m w:=by have t:=h.mv n y;rw[u]at t;obtain⟨g,z,G,D,H,E,I,K⟩:=t;exact⟨g,z,D,E⟩
theorem ku.app {m:Mv} {N:gF Chg} (h:ku w F B s) (K:n<4) (Q:B.mp n=ζ x) (fe:s.mv n=ζ m) (t:But (λq=>q=x\/(B.cv n).ownBlock=ζ q) w w')
  (T:RX x (B.pv n) cv' {m with cs:=N} w') (z:∀b,cv'.ownBlock=ζ b->(B.cv n).ownBlock=ζ b\/w.heap.size<=b):
  ku w' (λb=>F b\/w.heap.size<=b) {B with cv:=qf B.cv n cv'} {s with mv:=qf s.mv n (ζ {m with cs:=N})}:=by
 have lt:∀{b:dw} {o:Obj},w.heap[b]?=ζ o->b<w.heap.size:=λt=>(j5 t).1;have H:=h.mv n K;rw[fe]at H;obtain⟨g,Y,z2,Z,z4,z5,z6,z7⟩:=H;rw[Q]at Y;cases Y;have R:∀b,(B.cv n).ownBlock=ζ b->∃cur,w.heap[b]?=ζ (ao cur 60 (0,0)):=λb t=>jo.ty z5 t;have I:∀(b:dw) (cur:iO ah) (ty:aT),w.heap[b]?=ζ (ao cur ty (0,0))->ty≠110->ty≠60->w'.heap[b]?=w.heap[b]?:=λb cur ty u n1 n2=>t.keep b (lt u) (by
  rintro(e|e);{rw[e,Z]at u;have e2:=xoi u;injection e2 with _ G;exact n1 G.symm}
  .obtain⟨c,z⟩:=R b e;rw[z]at u;have e2:=xoi u;injection e2 with _ G
   exact n2 G.symm)
 obtain⟨cur,V,k2⟩:=h.sb.2;refine⟨⟨.inl h.ml.1,(I _ _ _ h.ml.2 (by decide) (by decide)).trans h.ml.2⟩,⟨.inl h.sb.1,cur,(I _ _ _ V (by decide) (by decide)).trans V,k2⟩,λi y=>⟨(h.r i y).1.block λq hq=>?_,λb t=>.inl ((h.r i y).2 b t)⟩,λi y=>?_,h.mpi,λi j q y O D E=>?_,h.yc.keep (λb c ty t _ U=>I b c ty t (by rcases U with rfl|rfl<;>decide) (by rcases U with rfl|rfl<;>decide)) (λ_ h=>.inl h) lc lc⟩;{obtain⟨c,z⟩:=(h.r i y).1.ty hq;exact I q c _ z (by decide) (by decide)}
 .show nP w' _ _ i (qf s.mv n _ i);by_cases e:i=n;{subst e;rw[qj];refine⟨x,Q,.inl z2,?_,?_,?_,λb t=>.inl (z6 b t),λb t=>?_⟩;{rw[T.b];show _=ζ (ao (qz (B.pv i) (qf B.cv i cv' i) _) _ _);rw[qj]};{exact z4.block λb t=>by obtain⟨c,z⟩:=jo.ty z4 t;exact I b c _ z (by decide) (by decide)};{show pX w' (qf B.cv i cv' i) N;rw[qj];exact T.r};have t:(qf B.cv i cv' i).ownBlock=ζ b:=t;rw[qj]at t;exact(z b t).imp (z7 b) id}
  .rw[qh _ _ e];have D:nP w' (λb=>F b\/w.heap.size<=b) B i (s.mv i):=((h.mv i y).keep (λb cur o u=>t.keep b (lt u) (by
     rintro(e2|e2);{exact e (h.mpi i n b y K o (by rw[Q,e2]))}
     .obtain⟨c,z⟩:=R b e2;rw[z]at u;have G:=xoi u;injection G with _ M;exact gY M (by decide))) (λb cur o u=>I b cur _ u (by decide) (by decide)) (λb cur o u=>t.keep b (lt u) (by
     rintro(e2|e2);{rw[e2,Z]at u;have G:=xoi u;injection G with _ M;exact gY M (by decide)}
     .exact e (h.cvi i n b y K o e2)))).mono λb t=>.inl t
   exact D.same lc lc (qh _ _ e)
 .replace D:(qf B.cv n cv' i).ownBlock=ζ q:=D;replace E:(qf B.cv n cv' j).ownBlock=ζ q:=E;have ltc:∀i,i<4->∀b,(B.cv i).ownBlock=ζ b->b<w.heap.size:=λi y b t=>by
   have H:=h.mv i y;cases kE:s.mv i with
   |none=>rw[kE]at H;rw[H.2]at t;cases t
   |some mi=>rw[kE]at H;obtain⟨q,y1,y2,y3,y4,y5,y6,y7⟩:=H;exact jo.lt y5 t
  by_cases e1:i=n;{by_cases e2:j=n;{omega};subst e1;rw[qj]at D;rw[qh _ _ e2]at E;rcases z q D with h3|h3;{exact gY (h.cvi i j q K O h3 E) λe=>e2 e.symm};have:=ltc j O q E;omega};rw[qh _ _ e1]at D;by_cases e2:j=n;{subst e2;rw[qj]at E;rcases z q E with h3|h3;{exact gY (h.cvi i j q y K D h3) e1};have:=ltc i y q D;omega};rw[qh _ _ e2]at E;exact h.cvi i j q y O D E
theorem ku.ZL (h:ku w F B s):B.sb<w.heap.size:=h.lts.sb.1.2
theorem ku.cvs {m:Mv} (h:ku w F B s) (H:n<4) (G:s.mv n=ζ m):(B.cv n).ownBlock≠ζ B.sb/\∀b,(B.cv n).ownBlock=ζ b->F b/\b<w.heap.size:=by have t:=h.mv n H;rw[G]at t;obtain⟨g,M,N,O,Q,z,R,K⟩:=t;refine⟨λe=>?_,λb u=>⟨K b u,jo.lt z u⟩⟩;obtain⟨c,y⟩:=jo.ty z e;obtain⟨cur,I,_⟩:=h.sb.2;rw[I]at y;have D:=xoi y;injection D with _ E;exact gY E (by decide)
theorem ku.mpG {m:Mv} (h:ku w F B s) (z:n<4) (y:s.mv n=ζ m) (D:B.mp n=ζ x):F x:=by have t:=h.mv n z;rw[y]at t;obtain⟨g,u,E,_⟩:=t;rw[D]at u;cases u;exact E
end
structure Cst where
 A:PA
 B:MA
 F:dw->Prop
 G:dw->Prop
 s:St
 t:St
def Cst.own (c:Cst) (b:dw):Prop:=c.F b\/c.G b
structure oJ (n0:dw) (w:aa) (c:Cst):Prop where
 p:zx w c.F c.A c.s
 m:ku w c.G c.B c.t
 lo:∀b,c.own b->n0<=b/\b<w.heap.size
 fg:∀b,c.F b->¬c.G b
def Apart (c d:Cst):Prop:= ∀b,c.own b->¬d.own b
theorem Apart.symm {c d:Cst} (h:Apart c d):Apart d c:=λb t u=>h b u t
def pF (cs:gF Cst):gF ah:=cs.flatMap λc=>[ξ (ζ ⟨c.A.cl,0,ε⟩),ξ (ζ ⟨c.B.ml,0,ε⟩)]
theorem qvl (a b:gF Cst):pF (a++b)=pF a++pF b:=List.flatMap_append
theorem Wj:∀(cs:gF Cst) (k:dw) (c:Cst),cs[k]?=ζ c->(pF cs)[k*2]?=ζ (ξ (ζ ⟨c.A.cl,0,ε⟩))/\(pF cs)[k*2+1]?=ζ (ξ (ζ ⟨c.B.ml,0,ε⟩))
 |[],k,p,h=>by simp at h
 |q::L,0,p,h=>by simp at h;subst h;exact⟨lc,lc⟩
 |q::L,k+1,p,h=>by show((ξ (ζ ⟨q.A.cl,0,ε⟩):ah)::ξ (ζ ⟨q.B.ml,0,ε⟩)::pF L)[(k+1)*2]?=_/\((ξ (ζ ⟨q.A.cl,0,ε⟩):ah)::ξ (ζ ⟨q.B.ml,0,ε⟩)::pF L)[(k+1)*2+1]?=_;rw[show(k+1)*2=k*2+1+1 by omega];simpa using Wj L k p (by simpa using h)
theorem q2g (cs:gF Cst) (k:dw) (c d:Cst) (h:cs[k]?=ζ c) (t:d.A.cl=c.A.cl) (u:d.B.ml=c.B.ml):pF (cs.set k d)=pF cs:=by
 induction cs generalizing k with
 |nil=>rfl
 |cons q L ih=>
  cases k with
  |zero=>simp at h;subst h;simp[pF,t,u]
  |succ k=>simp only[List.set_cons_succ];show _::_::pF (L.set k d)=_::_::pF L;rw[ih k (by simpa using h)]
def Ct (W:dw) (CS:zQ) (S:ah) (b:dw):Prop:=b=W\/CS.cs.ownBlock=ζ b\/CS.bs.ownBlock=ζ b\/S.ownBlock=ζ b
structure uY (n0:dw) (w:aa) (W:dw) (n:dw) (cs:gF Cst) (CS:zQ) (S:ah) (m:dw) (bs:gF Bs):Prop where
 ls:mP n0 w W CS S m
 cr:w.ownsRow n0 56 2 CS.cs cs.length (pF cs)
 br:w.ownsRow n0 9 1 CS.bs bs.length (bs.map sv)
 le:m<=n/\bs.length<=n/\∀b∈bs,b.length<=64
 out:CS.out=λb=>∃c∈cs,c.own b
 off:∀b,Ct W CS S b->¬CS.out b
structure zy (n0:dw) (w:aa) (W:dw) (n:dw) (cs:gF Cst):Prop where
 lo:n0<=W
 b:∃CS S m bs,uY n0 w W n cs CS S m bs
 each:∀c∈cs,oJ n0 w c
 apart:cs.Pairwise Apart
section
variable {n0:dw} {w w':aa} {W n k m:dw} {cs:gF Cst} {c d:Cst} {CS:zQ} {S:ah} {bs:gF Bs}
theorem oJ.frame (h:oJ n0 w c) (k:∀b,c.own b->w'.heap[b]?=w.heap[b]?) (u:w.heap.size<=w'.heap.size):oJ n0 w' c:=
 ⟨h.p.frame λb t=>k b (.inl t),h.m.frame λb t=>k b (.inr t),λb t=>⟨(h.lo b t).1,xll (h.lo b t).2 u⟩,h.fg⟩
theorem oJ.but (h:oJ n0 w c) (u:But B w w') (y:∀b,c.own b->¬B b):oJ n0 w' c:=h.frame (λb t=>u.keep b (h.lo b t).2 (y b t)) u.size
theorem oJ.idle (h:oJ n0 w c) (t:But (λ_=>je) w w'):oJ n0 w' c:=h.but t λ_ _=>id
theorem oJ.prog {z:PA} {s':St} (h:oJ n0 w c) (H:n0<=w.heap.size) (D:But c.F w w') (G:zx w' (λb=>c.F b\/w.heap.size<=b) z s'):
  oJ n0 w' {c with A:=z,F:=λb=>(c.F b\/w.heap.size<=b)/\b<w'.heap.size,s:=s'}:=by
 refine⟨G.lts,h.m.frame λb t=>D.keep b (h.lo b (.inr t)).2 λy=>h.fg b y t,λb E=>?_,λb y t=>?_⟩;{rcases E with⟨h1|h1,u⟩|h1;{exact⟨(h.lo b (.inl h1)).1,u⟩};{exact⟨by omega,u⟩};exact⟨(h.lo b (.inr h1)).1,xll (h.lo b (.inr h1)).2 D.size⟩}
 .rcases y with⟨h1|h1,u⟩
  .exact h.fg b h1 t
  .have:=(h.lo b (.inr t)).2;omega
theorem oJ.doc {z:MA} {t':St} (h:oJ n0 w c) (K:n0<=w.heap.size) (D:But c.G w w') (I:ku w' (λb=>c.G b\/w.heap.size<=b) z t'):
  oJ n0 w' {c with B:=z,G:=λb=>(c.G b\/w.heap.size<=b)/\b<w'.heap.size,t:=t'}:=by
 refine⟨h.p.frame λb u=>D.keep b (h.lo b (.inl u)).2 (h.fg b u),I.lts,λb E=>?_,λb u H=>?_⟩;{rcases E with h1|⟨h1|h1,y⟩;{exact⟨(h.lo b (.inl h1)).1,xll (h.lo b (.inl h1)).2 D.size⟩};{exact⟨(h.lo b (.inr h1)).1,y⟩};exact⟨by omega,y⟩}
 .rcases H with⟨h1|h1,y⟩
  .exact h.fg b u h1
  .have:=(h.lo b (.inl u)).2;omega
theorem zy.two (h:zy n0 w W n cs) (y:cs[i]?=ζ c) (z:cs[j]?=ζ d) (D:i≠j):Apart c d:=by obtain⟨t,rfl⟩:=ai.1 y;obtain⟨u,rfl⟩:=ai.1 z;rcases bI i j with h1|h1;{exact aI.1 h.apart i j t u h1};exact(aI.1 h.apart j i u t (by omega)).symm
theorem uY.lt (h:uY n0 w W n cs CS S m bs) (u:Ct W CS S b):b<w.heap.size:=by obtain⟨y,t⟩:=h.ls.row;rcases u with e|e|e|e;{subst e;exact h.ls.cell.2.2};{exact(h.cr.lt b e).2};{exact(h.br.lt b e).2};exact(t.lt b e).2
theorem uY.II (h:uY n0 w W n cs CS S m bs) {g:dw} (t:nG w S g):g<w.heap.size:=by obtain⟨_,u⟩:=h.ls.Mi t;exact(j5 u).1
theorem mP.avoid {O:dw->Prop} (h:mP n0 w W CS S m) (t:∀g,nG w S g->¬O g):mP n0 w W {CS with out:=O} S m:=⟨h.b,h.row,h.kept,t⟩
theorem zy.turn (h:zy n0 w W n cs) (G:cs[k]?=ζ c) (M:But B w w') (K:∀b,B b->c.own b) (hd:oJ n0 w' d) (T:d.A.cl=c.A.cl) (e2:d.B.ml=c.B.ml) (U:∀b,d.own b->c.own b\/w.heap.size<=b):zy n0 w' W n (cs.set k d):=by
 obtain⟨CS,S,m,bs,t⟩:=h.b;have I:=aB G;have lK:=h.each c I;have H:∀b,Ct W CS S b->w'.heap[b]?=w.heap[b]?:=λb u=>M.keep b (t.lt u) λe=>t.off b u (by rw[t.out];exact⟨c,I,K b e⟩);have Q:∀b,nG w S b->w'.heap[b]?=w.heap[b]?:=λb u=>M.keep b (t.II u) λe=>t.ls.out b u (by rw[t.out];exact⟨c,I,K b e⟩);have Om:mP n0 w' W CS S m:=t.ls.block (H W (.inl lc)) (λg y=>H g (.inr (.inr (.inr y)))) Q;have Y:∀b,(∃x∈cs.set k d,x.own b)->(∃x∈cs,x.own b)\/w.heap.size<=b:=λb ⟨x,hx,D⟩=>by rcases List.mem_or_eq_of_mem_set hx with hx|hx;{exact .inl ⟨x,hx,D⟩};subst hx;exact(U b D).imp (λh=>⟨c,I,h⟩) id
 refine⟨h.lo,⟨{CS with out:=λb=>∃x∈cs.set k d,x.own b},S,m,bs,⟨Om.avoid λg y O=>?_,?_,qi t.br λg y=>H g (.inr (.inr (.inl y))),t.le,lc,λb u O=>?_⟩⟩,λx hx=>?_,?_⟩
 .have V:nG w S g:=by unfold nG at y|-;rw[EJ λq hq=>H q (.inr (.inr (.inr hq)))]at y;exact y
  rcases Y g O with h1|h1;{exact t.ls.out g V (by rw[t.out];exact h1)};have:=t.II V;omega
 .rw[q2g cs k c d G T e2,cG];exact qi t.cr λg y=>H g (.inr (.inl y))
 .have u:Ct W CS S b:=u;rcases Y b O with h1|h1;{exact t.off b u (by rw[t.out];exact h1)};have:=t.lt u;omega
 .obtain⟨j,z⟩:=List.mem_iff_getElem?.1 hx;by_cases e:j=k;{subst e;rw[List.getElem?_set_self (ai.1 G).1]at z;cases z;exact hd};rw[List.getElem?_set_ne (λx=>e x.symm)]at z;exact(h.each x (aB z)).but M λb D u=>h.two G z (λx=>e x.symm) b (K b u) D
 .have key:∀x∈cs,Apart c x->Apart d x:=λx hx E b wN D=>by rcases U b wN with h1|h1;{exact E b h1 D};have:=((h.each x hx).lo b D).2;omega
  rw[aI];intro i j N z Z;simp only[cG]at N z;have E:=aI.1 h.apart i j N z Z;rw[List.getElem_set,List.getElem_set];have R:cs[k]'(ai.1 G).1=c:=(ai.1 G).2;split;{rename_i e;subst e;rw[eD (by omega)];rw[R]at E;exact key _ (bp z) E};split;{rename_i T e;subst e;rw[R]at E;exact(key _ (bp N) E.symm).symm};exact E
theorem zy.Cz (h:zy n0 w W n cs):n0<=w.heap.size:=by obtain⟨CS,S,m,bs,t⟩:=h.b;have:=t.ls.cell.2.2;have:=h.lo;omega
theorem zy.prog (h:zy n0 w W n cs) (y:cs[k]?=ζ c) {u:PA} {s':St} (t:But c.F w w') (D:zx w' (λb=>c.F b\/w.heap.size<=b) u s') (e:u.cl=c.A.cl):
  zy n0 w' W n (cs.set k {c with A:=u,F:=λb=>(c.F b\/w.heap.size<=b)/\b<w'.heap.size,s:=s'}):=
 h.turn y t (λb t=>.inl t) ((h.each c (aB y)).prog h.Cz t D) e lc λb z=>by rcases z with⟨h1|h1,_⟩|h1;{exact .inl (.inl h1)};{exact .inr h1};exact .inl (.inr h1)
theorem zy.doc (h:zy n0 w W n cs) (z:cs[k]?=ζ c) {y:MA} {t':St} (u:But c.G w w') (E:ku w' (λb=>c.G b\/w.heap.size<=b) y t') (e:y.ml=c.B.ml):
  zy n0 w' W n (cs.set k {c with B:=y,G:=λb=>(c.G b\/w.heap.size<=b)/\b<w'.heap.size,t:=t'}):=
 h.turn z u (λb u=>.inr u) ((h.each c (aB z)).doc h.Cz u E) lc e λb D=>by rcases D with h1|⟨h1|h1,_⟩;{exact .inl (.inl h1)};{exact .inl (.inr h1)};exact .inr h1
theorem uY.idle (h:uY n0 w W n cs CS S m bs) (u:But (λ_=>je) w w'):uY n0 w' W n cs CS S m bs:=by obtain⟨z,y⟩:=h.ls.row;exact⟨h.ls.block (u.keep W h.ls.cell.2.2 id) (λg t=>u.keep g (y.lt g t).2 id) (λg t=>u.keep g (h.II t) id),qi h.cr λg t=>u.keep g (h.cr.lt g t).2 id,qi h.br λg t=>u.keep g (h.br.lt g t).2 id,h.le,h.out,h.off⟩
theorem zy.idle (h:zy n0 w W n cs) (t:But (λ_=>je) w w'):zy n0 w' W n cs:=by obtain⟨CS,S,m,bs,y⟩:=h.b;exact⟨h.lo,⟨CS,S,m,bs,y.idle t⟩,λc u=>(h.each c u).idle t,h.apart⟩
theorem zy.below (h:zy n0 w W n cs) (t:ay w.heap.size w w'):zy n0 w' W n cs:=h.idle (il t)
theorem zy.up {n':dw} (h:zy n0 w W n cs) (u:n<=n'):zy n0 w W n' cs:=by obtain⟨CS,S,m,bs,t⟩:=h.b;exact⟨h.lo,⟨CS,S,m,bs,⟨t.ls,t.cr,t.br,⟨xlt t.le.1 u,xlt t.le.2.1 u,t.le.2.2⟩,t.out,t.off⟩⟩,h.each,h.apart⟩
theorem zy.jml {l:ah} {base q:dw} {xs:gF ah} (h:zy n0 w W n cs) (t:uY n0 w W n cs CS S m bs) (N:But (AZ W S l) w w') (O:w.ownsRow base 74 2 l q xs)
  (qN:∀c∈cs,∀b,c.own b->b<base) (I:∃E,mP n0 w' W CS E (m+1)/\∀g,E.ownBlock=ζ g->S.ownBlock=ζ g\/w.heap.size<=g):zy n0 w' W (n+1) cs:=by
 obtain⟨cur,T,_⟩:=t.ls.b;obtain⟨ys,V⟩:=t.ls.row;obtain⟨E,Q,I⟩:=I;have no:∀(b:dw) (cur:iO ah) (ty:aT),w.heap[b]?=ζ (ao cur ty (0,0))->ty≠74->ty≠47->ty≠36->w'.heap[b]?=w.heap[b]?:=λb cur ty u Y Z n3=>by refine N.keep b (j5 u).1 ?_;rintro(e|e|e);{rw[e,T]at u;have e2:=xoi u;injection e2 with _ z;exact n3 z.symm};{obtain⟨R,M⟩:=xh V e;rw[M]at u;have e2:=xoi u;injection e2 with _ z;exact Z z.symm};obtain⟨R,M⟩:=xh O e;rw[M]at u;have e2:=xoi u;injection e2 with _ z;exact Y z.symm
 refine⟨h.lo,⟨CS,E,m+1,bs,⟨Q,qi t.cr λg K=>?_,qi t.br λg K=>?_,⟨by have:=t.le.1;omega,by have:=t.le.2.1;omega,t.le.2.2⟩,t.out,λb u y=>?_⟩⟩,λc D=>(h.each c D).but N λb G u=>?_,h.apart⟩;{obtain⟨cp,H⟩:=xh t.cr K;exact no g cp _ H (by decide) (by decide) (by decide)};{obtain⟨cp,H⟩:=xh t.br K;exact no g cp _ H (by decide) (by decide) (by decide)};{have low:b<w.heap.size->¬CS.out b->je:=λ_ U=>U y;rcases u with e|e|e|e;{exact t.off b (.inl e) y};{exact t.off b (.inr (.inl e)) y};{exact t.off b (.inr (.inr (.inl e))) y};rcases I b e with e2|e2;{exact t.off b (.inr (.inr (.inr e2))) y};rw[t.out]at y;obtain⟨c,D,G⟩:=y;have:=((h.each c D).lo b G).2;omega}
 .have y:CS.out b:=by rw[t.out];exact⟨c,D,G⟩
  rcases u with e|e|e;{exact t.off b (.inl e) y};{exact t.off b (.inr (.inr (.inr e))) y};have h2:=qN c D b G;have h3:=(O.lt b e).1;omega
theorem q19:∃i,prog.info? 56=ζ i/\i.zero=ζ (Θ #[.pointer ε,.pointer ε])/\i.size=2/\i.bytes=16:=by
 have h:(prog.info? 56).map (λi=>(i.zero,i.size,i.bytes))=ζ (ζ (Θ #[.pointer ε,.pointer ε]),2,16):=by kernel_rfl
 obtain⟨i,y,t⟩:=aH.1 h;injection t with t u;injection u with u z;exact⟨i,y,t,u,z⟩
theorem uY.grown {v0:ah} {ty:aT} (H:uY n0 w W n cs CS S m bs) (I:∀g,v0.ownBlock=ζ g->Ct W CS S g/\∃cur,w.heap[g]?=ζ (.cells cur ty (0,0))) (O:ty=56\/ty=9) (E:(w.alloc o).grownBy w3 v0.ownBlock):
  (∃cur,w3.heap[W]?=ζ (.cells cur 36 (0,0))/\w.heap[W]?=w3.heap[W]?)/\But (λb=>b=W\/v0.ownBlock=ζ b) w (w3.setCell ⟨W,j,ε⟩ v3)/\
   (∀(b:dw) (cur:iO ah) (t:aT),w.heap[b]?=ζ (ao cur t (0,0))->t≠ty->t≠36->(w3.setCell ⟨W,j,ε⟩ v3).heap[b]?=w.heap[b]?)/\
   (∀c∈cs,oJ n0 w c->oJ n0 (w3.setCell ⟨W,j,ε⟩ v3) c):=by
 obtain⟨cur,D,_⟩:=H.ls.b;have R:=(j5 D).1;have Q:ζ W≠v0.ownBlock:=λe=>by obtain⟨_,c,G⟩:=I W e.symm;rw[D]at G;have z:=xoi G;injection z with _ u;rcases O with h|h;{rw[h]at u;exact gY u (by decide)};rw[h]at u;exact gY u (by decide)
 have M:w3.heap[W]?=ζ (.cells cur 36 (0,0)):=(E.block W (by simp;omega) Q).trans ((aF w o R).trans D);have K:But (λb=>b=W\/v0.ownBlock=ζ b) w (w3.setCell ⟨W,j,ε⟩ v3):=But.setCell ⟨by have:=E.size;simp at this;omega,λb T U=>(E.block b (by simp;omega) λe=>U (.inr e.symm)).trans (aF w o T),(by rw[E.os];rfl),(by rw[E.output];rfl)⟩ (.inl lc) _ _;refine⟨⟨cur,M,by rw[M,D]⟩,K,λb kX t y Z n2=>K.keep b (j5 y).1 ?_,λc G Y=>Y.but K λb qH y=>?_⟩;{rintro(e|e);{rw[e,D]at y;have z:=xoi y;injection z with _ u;exact n2 u.symm};obtain⟨_,c',V⟩:=I b e;rw[V]at y;have z:=xoi y;injection z with _ u;exact Z u.symm}
 .have N:CS.out b:=by rw[H.out];exact⟨c,G,qH⟩
  rcases y with e|e;{exact H.off b (.inl e) N};exact H.off b (I b e).1 N
theorem zy.add (h:zy n0 w W n cs) (t:uY n0 w W n cs CS S m bs)
  (D:oJ n0 w c) (rH:∀d∈cs,Apart d c) (N:∀b,Ct W CS S b\/nG w S b->¬c.own b) (G:(w.alloc o).grownBy w3 CS.cs.ownBlock) (sF:∀g,v3.ownBlock=ζ g->CS.cs.ownBlock=ζ g\/w.heap.size<=g)
  (H:w3.ownsRow n0 56 2 v3 (cs.length+1) (pF cs++[ξ (ζ ⟨c.A.cl,0,ε⟩),ξ (ζ ⟨c.B.ml,0,ε⟩)])):
  w3.cell? ⟨W,0,ε⟩=ζ CS.cs/\w3.frozen? ⟨W,0,ε⟩=θ/\zy n0 (w3.setCell ⟨W,0,ε⟩ v3) W n (cs++[c])/\But (λb=>n0<=b) w (w3.setCell ⟨W,0,ε⟩ v3):=by
 obtain⟨cur,h1,q2,Y,h3,Tw⟩:=t.ls.b;obtain⟨xs,O⟩:=t.ls.row;obtain⟨⟨kX,E,U⟩,I,no,keep⟩:=t.grown (w3:=w3) (v3:=v3) (v0:=CS.cs) (o:=o) (j:=0) (λg G=>⟨.inr (.inl G),xh t.cr G⟩) (.inl lc) G;rw[h1,E]at U;obtain rfl:cur=kX:=by have e2:=xoi U;injection e2
 have rows:∀{v:ah} {q size:dw} {ty:aT} {K:gF ah},w.ownsRow n0 ty size v q K->ty≠56->ty≠36->(w3.setCell ⟨W,0,ε⟩ v3).ownsRow n0 ty size v q K:=λ{v q size ty K} H n1 n2=>qi H λg u=>by obtain⟨c,D⟩:=xh H u;exact no g c ty D n1 n2
 have hn:∀b,(b=W\/CS.cs.ownBlock=ζ b)->n0<=b:=λb z=>z.elim (λe=>e▸h.lo) λe=>(t.cr.lt b e).1;have T:Be (w3.setCell ⟨W,0,ε⟩ v3) S=Be w S:=by rw[C8 (rows O (by decide) (by decide)),C8 O]
 have hsz3:w.heap.size<=w3.heap.size:=by have:=G.size;simp at this;omega
 have Q:∀b,(∃x∈cs++[c],x.own b)->CS.out b\/c.own b:=λb ⟨x,hx,R⟩=>by rcases bL.1 hx with hx|hx;{exact .inl (by rw[t.out];exact⟨x,hx,R⟩)};rw[aU]at hx;subst hx;exact .inr R
 refine⟨by simp[ae,E,Y],by simp[al,E],⟨h.lo,⟨⟨v3,CS.bs,λb=>∃x∈cs++[c],x.own b⟩,S,m,bs,⟨⟨⟨_,xhs w3 W 0 cur _ _ E,by rw[xne (by omega),q2],by rw[xsl ((j5 Y).1)],by rw[xne (by omega),h3],by rw[xne (by omega),Tw]⟩,⟨xs,rows O (by decide) (by decide)⟩,λk l Z=>?_,λg u M=>?_⟩,?_,rows t.br (by decide) (by decide),t.le,lc,λb y M=>?_⟩⟩,λd hd=>?_,?_⟩,⟨I.size,λb z mD=>I.keep b z λx=>mD (hn b x),I.os,I.output⟩⟩
 .rw[T]at Z;obtain⟨q,K,z1,z2⟩:=t.ls.kept k l Z;exact⟨q,K,qi z1 λg u=>by
   obtain⟨c,D⟩:=xh z1 u
   exact no g c _ D (by decide) (by decide),z2⟩
 .have V:nG w S g:=by unfold nG at u|-;rw[T]at u;exact u
  rcases Q g M with h4|h4;{exact t.ls.out g V h4};exact N g (.inr V) h4
 .show(w3.setCell ⟨W,0,ε⟩ v3).ownsRow n0 56 2 v3 (cs++[c]).length (pF (cs++[c]));rw[aj,qvl];refine bj H (λe=>?_) _;obtain⟨c',jW⟩:=xh H e;rw[show(⟨W,0,ε⟩:Addr).block=W from lc,E]at jW;cases jW
 .have key:Ct W CS S b->je:=λy=>by rcases Q b M with h4|h4;{exact t.off b y h4};exact N b (.inl y) h4
  rcases y with e|e|e|e;{exact key (.inl e)};{rcases sF b e with e2|e2;{exact key (.inr (.inl e2))};rcases Q b M with h4|h4;{rw[t.out]at h4;obtain⟨d,hd,wN⟩:=h4;have:=((h.each d hd).lo b wN).2;omega};have:=(D.lo b h4).2;omega};{exact key (.inr (.inr (.inl e)))};exact key (.inr (.inr (.inr e)))
 .rcases bL.1 hd with hd|hd;{exact keep d hd (h.each d hd)};rw[aU]at hd;subst hd;refine D.but I λb qH y=>?_;rcases y with e|e;{exact N b (.inl (.inl e)) qH};exact N b (.inl (.inr (.inl e))) qH
 .rw[List.pairwise_append];exact⟨h.apart,by simp,λa ha b z=>by rw[aU]at z;subst z;exact rH a ha⟩
theorem zy.told {D:Bs} (h:zy n0 w W n cs) (t:uY n0 w W n cs CS S m bs)
  (K:(w.alloc o).grownBy w3 CS.bs.ownBlock) (sF:∀g,v3.ownBlock=ζ g->CS.bs.ownBlock=ζ g\/w.heap.size<=g)
  (G:w3.ownsRow n0 9 1 v3 (bs.length+1) (bs.map sv++[sv D])) (nJ:D.length<=64):
  w3.cell? ⟨W,1,ε⟩=ζ CS.bs/\w3.frozen? ⟨W,1,ε⟩=θ/\zy n0 (w3.setCell ⟨W,1,ε⟩ v3) W (n+1) cs/\But (λb=>n0<=b) w (w3.setCell ⟨W,1,ε⟩ v3):=by
 obtain⟨cur,h1,q2,h2,T,Tw⟩:=t.ls.b;obtain⟨xs,N⟩:=t.ls.row;obtain⟨⟨kX,E,R⟩,M,no,keep⟩:=t.grown (w3:=w3) (v3:=v3) (v0:=CS.bs) (o:=o) (j:=1) (λg K=>⟨.inr (.inr (.inl K)),xh t.br K⟩) (.inr lc) K;rw[h1,E]at R;obtain rfl:cur=kX:=by have e2:=xoi R;injection e2
 have rows:∀{v:ah} {q size:dw} {ty:aT} {H:gF ah},w.ownsRow n0 ty size v q H->ty≠9->ty≠36->(w3.setCell ⟨W,1,ε⟩ v3).ownsRow n0 ty size v q H:=λ{v q size ty H} G n1 n2=>qi G λg z=>by obtain⟨c,O⟩:=xh G z;exact no g c ty O n1 n2
 have hn:∀b,(b=W\/CS.bs.ownBlock=ζ b)->n0<=b:=λb u=>u.elim (λe=>e▸h.lo) λe=>(t.br.lt b e).1;have Q:Be (w3.setCell ⟨W,1,ε⟩ v3) S=Be w S:=by rw[C8 (rows N (by decide) (by decide)),C8 N]
 refine⟨by simp[ae,E,T],by simp[al,E],⟨h.lo,⟨⟨CS.cs,v3,CS.out⟩,S,m,bs++[D],⟨⟨⟨_,xhs w3 W 1 cur _ _ E,by rw[xne (by omega),q2],by rw[xne (by omega),h2],by rw[xsl ((j5 T).1)],by rw[xne (by omega),Tw]⟩,⟨xs,rows N (by decide) (by decide)⟩,λk l U=>?_,λg z y=>?_⟩,rows t.cr (by decide) (by decide),?_,⟨by have:=t.le.1;omega,by have:=t.le.2.1;simp;omega,λb u=>(bL.1 u).elim (t.le.2.2 b) λu=>by rw[aU.1 u];exact nJ⟩,t.out,λb eU y=>?_⟩⟩,λd I=>keep d I (h.each d I),h.apart⟩,⟨M.size,λb u mD=>M.keep b u λx=>mD (hn b x),M.os,M.output⟩⟩
 .rw[Q]at U;obtain⟨q,H,Z,z2⟩:=t.ls.kept k l U;exact⟨q,H,qi Z λg z=>by
   obtain⟨c,O⟩:=xh Z z
   exact no g c _ O (by decide) (by decide),z2⟩
 .have gy:nG w S g:=by unfold nG at z|-;rw[Q]at z;exact z
  exact t.ls.out g gy y
 .show(w3.setCell ⟨W,1,ε⟩ v3).ownsRow n0 9 1 v3 (bs++[D]).length ((bs++[D]).map sv);rw[aj,List.map_append];refine bj G (λe=>?_) _;obtain⟨c',V⟩:=xh G e;rw[show(⟨W,1,ε⟩:Addr).block=W from lc,E]at V;have e2:=xoi V;injection e2 with _ e3;exact gY e3 (by decide)
 .rcases eU with e|e|e|e;{exact t.off b (.inl e) y};{exact t.off b (.inr (.inl e)) y};{rcases sF b e with e2|e2;{exact t.off b (.inr (.inr (.inl e2))) y};have Y:CS.out b:=y;rw[t.out]at Y;obtain⟨d,I,wN⟩:=Y;have:=((h.each d I).lo b wN).2;omega};exact t.off b (.inr (.inr (.inr e))) y
end
section
variable {w:aa}
def rP (w:aa):aa:=(w.alloc (.map #[] 0)).alloc (ω #[.map (ζ w.heap.size)] 142)
theorem Qf:aD prog 39 #[] w λe w'=>e=ψ (ξ (ζ ⟨w.heap.size+1,0,ε⟩))/\w'=rP w:=by have t:= @run_makeMap prog;go_enter func39,ntmps39;go_wp2;go_ret;exact⟨lc,lc⟩
theorem heap_alloc_new' (w:aa) (o:Obj) (h:n=w.heap.size):(w.alloc o).heap[n]?=ζ o:=by subst h;exact az w o
theorem Qp {mb:dw} (h:w'.heap[mb]?=ζ (.map #[] 0)):zk w' mb []:=by have u:(({w' with heap:=#[]}:aa).alloc (.map #[] 0)).ownsMap prog 9 Rv 0 0 (DM []):=World.ownsMap_made _ _ _ _;obtain⟨D,z,t,F⟩:=u;have y:(({w' with heap:=#[]}:aa).alloc (.map #[] 0)).heap[0]?=ζ (.map #[] 0):=rfl;rw[y]at t;cases t;exact⟨#[],0,h,F⟩
theorem jgn (h:gJ) (hh:h<2\/4<h) (u: -9223372036854775808<=h/\h<=9223372036854775807):aD prog 17 #[σ υ h] w λe w'=>e=ψ (ο #[.pointer ε,σ υ 1])/\w'=w:=by
 rcases cn h 2 with h2|h2
 .have t:ν (h<2)=η:=by simp;omega
  go_enter func17,ntmps17;go_wp2;go_ret2;exact⟨lc,lc⟩
 .have t:ν (h<2)=θ:=by simp;omega
  have y:ν (4<h)=η:=by simp;omega
  go_enter func17,ntmps17;go_wp2;go_ret2;exact⟨lc,lc⟩
end
theorem q2u:∃i,prog.info? 104=ζ i/\i.zero=ζ (Θ #[σ υ 0,Δ ε 0 0,.pointer ε])/\i.size=3/\i.bytes=40:=by
 have h:(prog.info? 104).map (λi=>(i.zero,i.size,i.bytes))=ζ (ζ (Θ #[σ υ 0,Δ ε 0 0,.pointer ε]),3,40):=by kernel_rfl
 obtain⟨i,y,t⟩:=aH.1 h;injection t with t u;injection u with u z;exact⟨i,y,t,u,z⟩
def zR (h:dw):dw->gF ah
 |0=>[]
 |j+1=>zR h j++[σ υ ((j:gJ).tmod (h:gJ)),Δ ε 0 0,.pointer ε]
theorem W9 (h:dw):∀j i,i<j->(zR h j)[i*3+1]?=ζ (Δ ε 0 0)/\(zR h j)[i*3+2]?=ζ (.pointer ε)/\(zR h j)[i*3]?=ζ (σ υ ((i:gJ).tmod (h:gJ)))
 |0,i,hi=>by omega
 |j+1,i,hi=>by
  have t:∀j,(zR h j).length=j*3:=λj=>by
   induction j with
   |zero=>rfl
   |succ j ih=>simp only[zR,aj,ih,bw,bN];omega
  unfold zR;by_cases e:i=j;{subst e;rw[aO (by rw[t];omega),aO (by rw[t];omega),aO (by rw[t];omega),t,show i*3+1-i*3=1 by omega,show i*3+2-i*3=2 by omega,show i*3-i*3=0 by omega];exact⟨lc,lc,lc⟩};rw[aS (by rw[t];omega),aS (by rw[t];omega),aS (by rw[t];omega)];exact W9 h j i (by omega)
theorem cells3 (w:aa) (a b c:ah) (ty:aT):∀(j:dw) (u:ah),[a,b,c][j]?=ζ u->(w.alloc (ω #[a,b,c] ty)).cell? ((⟨w.heap.size,0,ε⟩:Addr).add j)=ζ u:=λj u t=>by
 rw[Addr.add_lit,co];match j,t with
 |0,t=>simp at t;subst t;go_simp
 |1,t=>simp at t;subst t;go_simp
 |2,t=>simp at t;subst t;go_simp
structure Cn (W w:aa) (h ml j:dw) (S:ah):Prop where
 b:w.heap[ml]?=ζ (ω #[σ υ h,S,Δ ε 0 0,σ υ 0,σ υ 0] 101 (0,0))
 row:w.ownsRow (ml+1) 104 3 S j (zR h j)
 lo:W.heap.size<=ml
 below:ay W.heap.size W w
section
variable {W w w1 w3:aa} {h ml j:dw} {S:ah}
theorem Cn.cell (H:Cn W w h ml j S):w.cell? ⟨ml,1,ε⟩=ζ S/\w.frozen? ⟨ml,1,ε⟩=θ/\ml<w.heap.size:=by have t:=H.b;exact⟨by simp[ae,t],by simp[al,t],(j5 t).1⟩
theorem Cn.app {g cap:dw} {xs:gF ah} (H:Cn W w h ml j S) (o:Obj) (K:w1=(w.alloc o).drew) (u:w1.grownBy w3 S.ownBlock) (y:w3.ownsRow (ml+1) 104 3 (Δ (ζ ⟨g,0,ε⟩) (j+1) cap) (j+1) xs):
  w3.cell? ⟨ml,1,ε⟩=ζ S/\w3.frozen? ⟨ml,1,ε⟩=θ/\(xs=zR h (j+1)->Cn W (w3.setCell ⟨ml,1,ε⟩ (Δ (ζ ⟨g,0,ε⟩) (j+1) cap)) h ml (j+1) (Δ (ζ ⟨g,0,ε⟩) (j+1) cap)):=by
 subst K;have G:=H.b;have D:=H.cell.2.2;have E:ζ ml≠S.ownBlock:=λe=>by have:=(H.row.lt ml e.symm).1;omega
 have t:w3.heap[ml]?=ζ (ω #[σ υ h,S,Δ ε 0 0,σ υ 0,σ υ 0] 101 (0,0)):=(u.block ml (by simp;omega) E).trans ((aF w o D).trans G);refine⟨by simp[ae,t],by simp[al,t],λe=>?_⟩;subst e;have z:ay W.heap.size W w3:=(show ay W.heap.size W (w.alloc o).drew from(H.below.alloc H.below.size o).drew).grown u (by have:=H.below.size;simp;omega) λk I=>by have:=(H.row.lt k I).1;have:=H.lo;omega
 refine⟨(xhs w3 ml 1 _ _ _ t).trans lc,?_,H.lo,z.setCell H.lo _⟩;refine bj y (λe=>?_) _;have:=(y.lt ml e).1;omega
def F8 (h:dw):St:=⟨h,λi=>i%h,λ_=>[],λ_=>ε,λ_ _=>ε,0,0⟩
def q3u (h:dw) (w:aa) (e:bR) (w':aa):Prop:= ∃B:MA,e=ψ (ο #[ξ (ζ ⟨B.ml,0,ε⟩),χ η])/\ku w' (λb=>w.heap.size<=b) B (F8 h)/\ay w.heap.size w w'
theorem V6 (i h:dw):((i:gJ).tmod (h:gJ))=((i%h:dw):gJ):=by rw[Int.tmod_eq_emod_of_nonneg (Int.natCast_nonneg i)];rfl
theorem Cn.mat (H:Cn W w h ml 4 S):∃B:MA,B.ml=ml/\ku w (λb=>W.heap.size<=b) B (F8 h):=by have G:=H.b;rcases H.row.2 with⟨_,N⟩|⟨g,z,cur,rfl,Q,t,O,R,T,M⟩;{cases N};refine⟨⟨ml,g,λ_=>Δ ε 0 0,λ_=>ε,λ_=>Δ ε 0 0,λ_=>Δ ε 0 0,Δ ε 0 0,z,[]⟩,lc,⟨⟨H.lo,G⟩,⟨by have:=H.lo;show W.heap.size<=g;omega,cur,t,λi u=>?_⟩,λi u=>⟨⟨aN _ _ _ _,lu.nil _⟩,λb t=>(by cases t)⟩,λi u=>⟨lc,lc⟩,λi j g u K h=>(by cases h),λi j g u K h=>(by cases h),⟨aN _ _ _ _,λb t=>(by cases t),λe I=>(by cases I),.nil,λh k _ _ e=>(by cases e)⟩⟩⟩;obtain⟨D,E,y⟩:=W9 h 4 i u;rw[<-M]at D E y;rw[List.getElem?_take_of_lt (by omega)]at D E y;rw[V6]at y;exact⟨by rw[<-bk];exact y,by rw[<-bk];exact D,by rw[<-bk];exact E⟩
theorem jcg (h:gJ) (hh:h<2\/4<h) (u: -9223372036854775808<=h/\h<=9223372036854775807):aD prog 22 #[σ υ h] w λe w'=>e=ψ (ο #[.pointer ε,χ θ])/\w'=w:=by
 rcases cn h 2 with h2|h2
 .have t:ν (h<2)=η:=by simp;omega
  go_enter func22,ntmps22;go_wp2;go_ret2;exact⟨lc,lc⟩
 .have t:ν (h<2)=θ:=by simp;omega
  have y:ν (4<h)=η:=by simp;omega
  go_enter func22,ntmps22;go_wp2;go_ret2;exact⟨lc,lc⟩
theorem q8b (h:dw) (h2:2<=h) (h4:h<=4):aD prog 22 #[σ υ h] w (q3u h w):=by
 have g1:ν ((h:gJ)<2)=θ:=by simp;omega
 have g2:ν ((4:gJ)<h)=θ:=by simp;omega
 have V:¬h=0:=by omega
 obtain⟨Z,K,M,N,O⟩:=q2u;have z:=Hd (ac K (ac M (ac N O)));clear K M N O;go_enter func22,ntmps22;go_wp2;go_loopw [5] (λi wr=>∃j:dw,j<=4/\i=σ υ j/\Hid (∃S,Cn w wr h w.heap.size j S)) (λi _=>4-(intOf i).toNat);case atStart=>
  exact⟨0,by omega,lc,Hd ⟨Δ ε 0 0,az _ _,aN _ _ _ _,jg _,(qy _ _).alloc (jg _) _⟩⟩
 case round=>
  obtain⟨j,hj,rfl,E⟩:=hrel;by_cases rE:j<4
  .obtain⟨S,y⟩:=E.o;have t:=Hd y;obtain⟨c1,f1,l1⟩:=t.out.cell;clear y;go_wp2;go_region_law (first|(refine step_append_lies _ lc (.tmp 23) (.tmp 28) 98 lc (w.heap.size+1) 104 Z _ 3 40 underlying98 z.1 z.2.1 z.2.2.1 z.2.2.2 lc (by decide) S j (zR h j) lc (t.out.row.alloc _) ⟨wr.heap.size,0,ε⟩ 1 1 [σ υ ((j:gJ).tmod (h:gJ)),Δ ε 0 0,.pointer ε] lc lc (cells3 wr _ _ _ _) (by intro u H;simp at H;rcases H with rfl|rfl|rfl<;>rfl) (by decide) (by unfold aL;omega) (by omega) (by simp;omega) _ lc ?_;intro g T w3 G I R Q;have D:=Hd (t.out.app _ lc I G);obtain⟨d3,e3,_⟩:=D.o;clear G I R Q));all_goals
    go_wp2;go_roundw;case rel=>exact⟨j+1,by omega,lc,Hd ⟨_,D.2.2 rfl⟩⟩
    case measure=>simp[intOf];omega
  .obtain rfl:j=4:=by omega
   obtain⟨S,y⟩:=E.o;have t:=Hd y;clear y;go_wp2;go_ret2;obtain⟨B,U,Y⟩:=t.out.mat;exact⟨B,by rw[U];rfl,Y,t.out.below⟩
end
structure NewAt (h:dw) (W w:aa) (cl j:dw) (db mb:dw->dw):Prop where
 b:∃cur,w.heap[cl]?=ζ (.cells cur 83 (0,0))/\cur.size=16/\(∀i,i<j->cur[1+i*3]?=ζ (σ υ ((i:gJ).tmod (h:gJ)))/\cur[1+i*3+1]?=ζ (ξ (ζ ⟨db i,0,ε⟩))/\cur[1+i*3+2]?=ζ (.pointer ε))/\cur[0]?=ζ (σ υ h)/\cur[13]?=ζ (.map (ζ W.heap.size))/\cur[14]?=ζ (σ υ 0)/\cur[15]?=ζ (σ υ 0)
 sm:w.heap[W.heap.size]?=ζ (.map #[] 0)/\W.heap.size<cl
 d:∀i,i<j->w.heap[db i]?=ζ (ω #[.map (ζ (mb i))] 142 (0,0))/\w.heap[mb i]?=ζ (.map #[] 0)/\cl<db i/\cl<mb i
 ne:∀i i',i<j->i'<j->mb i=mb i'->i=i'
 cl:W.heap.size<=cl
 below:ay W.heap.size W w
theorem NewAt.cells {hh:dw} {W w:aa} {cl j:dw} {db mb:dw->dw} (h:NewAt hh W w cl j db mb) {k:dw} (y:k<16):(∃v,w.cell? ⟨cl,k,ε⟩=ζ v)/\w.frozen? ⟨cl,k,ε⟩=θ:=by obtain⟨cur,t,u,_⟩:=h.b;exact⟨⟨cur[k]'(by omega),by simp[ae,t,show k<cur.size by omega]⟩,by simp[al,t]⟩
theorem NewAt.lt {W:aa} (h:NewAt hh W w cl j db mb):cl<w.heap.size:=by obtain⟨cur,t,_⟩:=h.b;exact(j5 t).1
theorem NewAt.made {W:aa} (h:NewAt hh W w cl j db mb) (e:w'=rP (w.drewN 1)):
  NewAt hh W w' cl j db mb/\w'.heap[w.heap.size+1]?=ζ (ω #[.map (ζ w.heap.size)] 142 (0,0))/\w'.heap[w.heap.size]?=ζ (.map #[] 0)/\(∀i,i<j->mb i<w.heap.size)/\cl<w.heap.size/\w'.heap.size=w.heap.size+2:=by
 subst e;have t:(rP (w.drewN 1)).heap=(w.heap.push (.map #[] 0)).push (ω #[.map (ζ w.heap.size)] 142 (0,0)):=lc;have old:∀b,b<w.heap.size->(rP (w.drewN 1)).heap[b]?=w.heap[b]?:=λb K=>by rw[t,aJ,eD (by simp;omega),aJ,eD (by omega)]
 obtain⟨cur,E,G,H⟩:=h.b;refine⟨⟨⟨cur,(old _ h.lt).trans E,G,H⟩,⟨(old _ (j5 h.sm.1).1).trans h.sm.1,h.sm.2⟩,λi u=>?_,h.ne,h.cl,?_⟩,?_,?_,λi u=>?_,h.lt,?_⟩;{obtain⟨y,z,I⟩:=h.d i u;exact⟨(old _ (j5 y).1).trans y,(old _ (j5 z).1).trans z,I⟩};{exact⟨h.below.os,h.below.tape,h.below.output,by rw[t];have:=h.below.size;simp;omega,λk D=>(old k (xll D h.below.size)).trans (h.below.block k D)⟩};{rw[t,aJ,fo (by simp)]};{rw[t,aJ,eD (by simp),aJ,fo lc]};{exact(j5 (h.d i u).2.1).1};rw[t];simp
theorem NewAt.stored {W:aa} {m:dw} (h:NewAt hh W w cl j db mb) (hj:j<4)
  (U:w.heap[m+1]?=ζ (ω #[.map (ζ m)] 142 (0,0))) (V:w.heap[m]?=ζ (.map #[] 0)) (I:∀i,i<j->mb i<m) (Y:cl<m)
  (e:w'=((w.setCell ⟨cl,1+j*3,ε⟩ (σ υ ((j:gJ).tmod (hh:gJ)))).setCell ⟨cl,1+j*3+1,ε⟩ (ξ (ζ ⟨m+1,0,ε⟩))).setCell ⟨cl,1+j*3+2,ε⟩ (.pointer ε)):NewAt hh W w' cl (j+1) (qf db j (m+1)) (qf mb j m):=by
 subst e;obtain⟨cur,Q,R,z⟩:=h.b;have s1:=xhs w cl (1+j*3) cur _ (σ υ ((j:gJ).tmod (hh:gJ))) Q;have s2:=xhs _ cl (1+j*3+1) _ _ (ξ (ζ ⟨m+1,0,ε⟩)) s1;have s3:=xhs _ cl (1+j*3+2) _ _ (.pointer ε) s2;have u:∀b,b≠cl->(((w.setCell ⟨cl,1+j*3,ε⟩ (σ υ ((j:gJ).tmod (hh:gJ)))).setCell ⟨cl,1+j*3+1,ε⟩ (ξ (ζ ⟨m+1,0,ε⟩))).setCell ⟨cl,1+j*3+2,ε⟩ (.pointer ε)).heap[b]?=w.heap[b]?:=λb H=>by rw[xho _ _ _ _ H,xho _ _ _ _ H,xho _ _ _ _ H]
 obtain⟨z,Z,M,O,N⟩:=z;refine⟨⟨_,s3,by simp[R],λi K=>?_,?_,?_,?_,?_⟩,⟨(u _ (by have:=h.sm.2;omega)).trans h.sm.1,h.sm.2⟩,λi K=>?_,λi y K gm t=>?_,h.cl,((h.below.setCell h.cl _).setCell h.cl _).setCell h.cl _⟩;{unfold qf;by_cases e:i=j;{subst e;rw[fo lc];refine⟨?_,?_,?_⟩;{rw[xne (by omega),xne (by omega),xsl (by omega)]};{rw[xne (by omega),xsl (by simp;omega)]};rw[xsl (by simp;omega)]};obtain⟨D,E,G⟩:=z i (by omega);rw[eD e];refine⟨?_,?_,?_⟩;{rw[xne (by omega),xne (by omega),xne (by omega),D]};{rw[xne (by omega),xne (by omega),xne (by omega),E]};rw[xne (by omega),xne (by omega),xne (by omega),G]};{rw[xne (by omega),xne (by omega),xne (by omega),Z]};{rw[xne (by omega),xne (by omega),xne (by omega),M]};{rw[xne (by omega),xne (by omega),xne (by omega),O]};{rw[xne (by omega),xne (by omega),xne (by omega),N]};{unfold qf;by_cases e:i=j;{rw[fo e,fo e];exact⟨(u _ (by omega)).trans U,(u _ (by omega)).trans V,by omega,Y⟩};rw[eD e,eD e];obtain⟨D,E,G,T⟩:=h.d i (by omega);exact⟨(u _ (by omega)).trans D,(u _ (by omega)).trans E,G,T⟩};unfold qf at t;by_cases e1:i=j;{by_cases e2:y=j;{omega};rw[fo e1,eD e2]at t;have:=I y (by omega);omega};by_cases e2:y=j;{rw[eD e1,fo e2]at t;have:=I i (by omega);omega};rw[eD e1,eD e2]at t;exact h.ne i y (by omega) (by omega) t
theorem NewAt.pat {h:dw} {W:aa} (H:NewAt h W w cl 4 db mb):zx w (λb=>W.heap.size<=b) ⟨cl,db,mb,λ_=>ε,λ_=>Δ ε 0 0,λ_=>Δ ε 0 0,λ_=>⟨#[]⟩,W.heap.size,λ_ _=>(0,0,0)⟩ (F8 h):=by
 obtain⟨cur,h1,h2,u,p0,N,Q,O⟩:=H.b;have mG:=H.sm.2;have M:cur=zm ⟨cl,db,mb,λ_=>ε,λ_=>Δ ε 0 0,λ_=>Δ ε 0 0,λ_=>⟨#[]⟩,W.heap.size,λ_ _=>(0,0,0)⟩ (F8 h):=by
  obtain⟨D,R,T⟩:=u 0 (by decide);obtain⟨E,U,V⟩:=u 1 (by decide);obtain⟨c0,c1,c2⟩:=u 2 (by decide);obtain⟨G,Y,Z⟩:=u 3 (by decide);rw[V6]at D E c0 G;refine Array.ext_getElem? λi=>?_;by_cases t:i<16
  .match i,t with
   |0,_=>exact p0
   |1,_=>exact D
   |2,_=>exact R
   |3,_=>exact T
   |4,_=>exact E
   |5,_=>exact U
   |6,_=>exact V
   |7,_=>exact c0
   |8,_=>exact c1
   |9,_=>exact c2
   |10,_=>exact G
   |11,_=>exact Y
   |12,_=>exact Z
   |13,_=>exact N
   |14,_=>exact Q
   |15,_=>exact O
   |i+16,t=>exact gY t (by omega)
  .rw[aX (by omega),aX (by show 16<=i;omega)]
 subst M;refine⟨⟨H.cl,h1⟩,λi t=>?_,λi t=>?_,H.ne,λi t=>⟨lc,lc⟩,λi j g t hj e=>(by cases e),λi j g t hj e=>(by cases e),⟨jg _,lH.q67 H.sm.1,λh k x _ _ e=>(by cases e),λh k a b _ _ _ _ e=>(by cases e),λh k _ _ e=>(by cases e)⟩,λi t=>?_⟩;{obtain⟨y,z,I,K⟩:=H.d i t;exact⟨by show W.heap.size<=db i;omega,y⟩};{obtain⟨y,z,I,K⟩:=H.d i t;exact⟨by show W.heap.size<=mb i;omega,Qp z⟩};obtain⟨y,z,I,K⟩:=H.d i t;show mb i≠W.heap.size;omega
def q9z (h:dw) (w:aa) (e:bR) (w':aa):Prop:= ∃A:PA,e=ψ (ο #[ξ (ζ ⟨A.cl,0,ε⟩),σ υ 0])/\zx w' (λb=>w.heap.size<=b) A (F8 h)/\ay w.heap.size w w'
section
variable {w:aa}
theorem q7x (h:dw) (z:2<=h) (N:h<=4):aD prog 17 #[σ υ h] w (q9z h w):=by
 have U:= @run_makeMap prog;have K:ν ((h:gJ)<2)=θ:=by simp;omega
 have M:ν ((4:gJ)<h)=θ:=by simp;omega
 go_enter func17,ntmps17;go_wp2;go_loopw [16] (λi wr=>∃j:dw,j<=4/\i=σ υ j/\Hid (∃db mb,NewAt h w wr (w.heap.size+1) j db mb)) (λi _=>4-(intOf i).toNat);case atStart=>
  refine⟨0,by omega,lc,Hd ⟨λ_=>0,λ_=>0,⟨_,heap_alloc_new' _ _ (by simp),?_,λi E=>(by omega),lc,lc,lc,lc⟩,⟨?_,by omega⟩,λi E=>by omega,λi _ E=>by omega,by omega,((qy _ _).alloc (jg _) _).alloc (by simp) _⟩⟩;{rfl};rw[aF _ _ (by simp)];exact az _ _
 case round=>
  obtain⟨j,O,rfl,D⟩:=hrel;by_cases rE:j<4
  .obtain⟨db,mb,u⟩:=D.o;have y:=Hd u;clear u;go_wp2;go_region_with (first|(go_at_call 39;refine Qf.mono ?_;rintro e w2 ⟨rfl,z⟩;have t:=Hd (y.out.made z);obtain⟨⟨Q,c0⟩,G⟩:=t.1.cells (k:=1+j*3) (by omega);obtain⟨⟨R,c1⟩,H⟩:=t.1.cells (k:=1+j*3+1) (by omega);obtain⟨⟨T,c2⟩,I⟩:=t.1.cells (k:=1+j*3+2) (by omega);clear z))
   all_goals
    go_wp2;go_roundw;case rel=>exact⟨j+1,by omega,lc,Hd ⟨_,_,t.1.stored rE t.2.1 t.2.2.1 t.2.2.2.1 t.2.2.2.2.1 lc⟩⟩
    case measure=>simp[intOf];omega
  .obtain rfl:j=4:=by omega
   obtain⟨db,mb,u⟩:=D.o;have y:=Hd u;clear u;go_wp2;go_ret2;exact⟨_,lc,y.out.pat,y.out.below⟩
end
def yw:Bs->Bs->dw
 |a::l,b::m=>if a=b then yw l m+1 else 0
 |_,_=>0
theorem Jl:∀(l m:Bs),yw l m<=l.length/\yw l m<=m.length
 |[],m=>by simp[yw]
 |a::l,[]=>by simp[yw]
 |a::l,b::m=>by unfold yw;have:=Jl l m;split;{simp;omega};simp
theorem Yl {m:Bs} (t:n<l.length) (u:n<m.length) (h:yw l m=n+yw (l.drop n) (m.drop n)):(l[n]=m[n]->yw l m=n+1+yw (l.drop (n+1)) (m.drop (n+1)))/\(l[n]≠m[n]->yw l m=n):=by rw[ax t,ax u,yw]at h;constructor;{intro e;rw[fo e]at h;omega};intro e;rw[eD e]at h;omega
theorem Yf {m:Bs} (t:l.length<=n\/m.length<=n) (h:yw l m=n+yw (l.drop n) (m.drop n)):yw l m=n:=by
 have:yw (l.drop n) (m.drop n)=0:=by have:=Jl (l.drop n) (m.drop n);simp only[bF]at this;omega
 omega
section
variable {w:aa}
theorem q8r (a b:bn) (Q:a.size<=140737488355328):aD prog 112 #[Γ a,Γ b] w λe w'=>e=ψ (σ υ (yw a.data.toList b.data.toList))/\ay w.heap.size w w':=by
 obtain⟨r,E⟩:∃r,yw a.data.toList b.data.toList=r:=⟨_,lc⟩
 rw[E];have u:=Hd E;clear E;obtain⟨t,O,M,N,K,T⟩:∃t:dw,(if b.size<a.size then(b.size:gJ)else(a.size:gJ))=t/\min (a.size:gJ) b.size=t/\t<=a.size/\t<=b.size/\(a.size<=t\/b.size<=t):=by by_cases h:b.size<a.size;{exact⟨b.size,by rw[fo h],by omega,by omega,by omega,.inr (jg _)⟩};exact⟨a.size,by rw[eD h],by omega,by omega,by omega,.inl (jg _)⟩
 go_enter func112,ntmps112;go_wp2;go_loopw [5] (λi wr=>∃n:dw,i=σ υ n/\n<=a.size/\Hid (r=n+yw (a.data.toList.drop n) (b.data.toList.drop n)/\ay w.heap.size w wr)) (λi _=>a.size-(intOf i).toNat);case atStart=>exact⟨0,lc,xzl _,Hd ⟨by rw[<-u.o];simp,qy _ _⟩⟩
 case round=>
  obtain⟨n,rfl,R,z⟩:=hrel;by_cases hx:n<t
  .have x1:n<a.size:=by omega
   have x2:n<b.size:=by omega
   have H:ν (n<t)=η:=xdt hx;have D:=Yl (l:=a.data.toList) (m:=b.data.toList) (n:=n) (by simpa using x1) (by simpa using x2) (by rw[u.o];exact z.1);go_wp2;go_quiet (fail);have y:=Hd (Below.drewN' z.2 nq);generalize wr.drewN nq=V at y|-;by_cases he:(a[n]'x1).toNat=(b[n]'x2).toNat
   .have I:(((a[n]'x1).toNat:gJ)==(b[n]'x2).toNat)=η:=by simp[he]
    have G:a.data[n]=b.data[n]:=UInt8.toNat_inj.1 (by simpa[aC]using he);have HE:=Hd (u.symm.trans (D.1 (by simpa using G)));clear D he G;go_wp2;go_roundw;case rel=>exact⟨n+1,by go_num,by omega,Hd ⟨HE.o,y.o⟩⟩
    case measure=>simp[intOf]<;>omega
   .have I:(((a[n]'x1).toNat:gJ)==(b[n]'x2).toNat)=θ:=by simp;omega
    have HE:=Hd (u.symm.trans (D.2 (λh=>he (by
     have h:a.data[n]=b.data[n]:=by simpa using h
     simp[aC,h]))))
    clear D he;go_wp2;go_ret;obtain rfl:=HE.o;exact⟨lc,y.o⟩
  .have HE:=Hd (Yf (l:=a.data.toList) (m:=b.data.toList) (n:=n) (by simp;omega) (by rw[u.o];exact z.1));have H:ν (n<t)=θ:=xdf hx;go_wp2;go_quiet (fail);have y:=Hd (Below.drewN' z.2 nq);generalize wr.drewN nq=V at y|-;go_wp2;go_ret;obtain rfl:r=n:=u.symm.trans HE.o;exact⟨lc,y.o⟩
def bsB (l:Bs):bn:=⟨l.toArray⟩
theorem CQ (a b:Bs):bsB a++bsB b=bsB (a++b):=by apply ByteArray.ext;rw[bm];unfold bsB;apply Array.ext';simp
theorem vD (a:Bs):(bsB a).size=a.length:=by show a.toArray.size=_;simp
theorem LV {b:bn} (h:b.data.toList=l):bsB l=b:=by subst h;rfl
theorem xO (s:Bs) (h:s.length<16384):(zo s).length<=s.length+2:=by have:=vo 1 s.length (by simpa using h);unfold zo;rw[aj];omega
def x9 (last k v:Bs):Bs:=yj (yw last k)++zo (k.drop (yw last k))++zo v
def jw (c:Chg):Bs:=if c.g then[2]++zo c.k else[1]++zo c.k++zo c.v
theorem QY (last k v:Bs) (D:last.length<=8) (z:k.length<=8) (E:v.length<=12):(x9 last k v).length<=25:=by have u:=vo 0 (yw last k) (by have:=(Jl last k).1;omega);have t:=xO (k.drop (yw last k)) (by simp;omega);have y:=xO v (by omega);simp only[bF]at t;unfold x9;simp only[aj];omega
theorem QW (c:Chg) (y:c.k.length<=8) (z:c.v.length<=12):(jw c).length<=25:=by have t:=xO c.k (by omega);have u:=xO c.v (by omega);unfold jw;split<;>simp only[aj,bw,bN]<;>omega
structure BpW (w:aa) (xb:dw) (k v:bn) (w':aa):Prop where
 c0:w'.cell? ⟨xb,0,ε⟩=ζ (Γ k)
 c1:w'.cell? ⟨xb,1,ε⟩=ζ (Γ v)
 b:ay w.heap.size w w'
theorem BpW.next {xb:dw} {v:bn} (h:BpW w xb k v w1) (t:ay w1.heap.size w1 w2):BpW w xb k v w2:=
 ⟨(t.cell (xbl w1 _ h.c0)).trans h.c0,(t.cell (xbl w1 _ h.c1)).trans h.c1,h.b.trans (t.mono h.b.size)⟩
theorem jmq {xb:dw} {v:bn} {B:Prop} (h:A/\B/\Hid (BpW w xb k v w1)) (u:n<=1000):
  aD prog 113 #[σ υ n] w1 λe w'=>e=ψ (Γ (bsB (yj n)))/\BpW w xb k v w':=(Cy n (by omega)).mono λe w' t=>⟨t.1,h.2.2.out.next t.2⟩
theorem LC {xb:dw} {v:bn} {B:Prop} (h:A/\B/\Hid (BpW w xb k v w1)) (u:s.size<=1000):
  aD prog 114 #[Γ s] w1 λe w'=>e=ψ (Γ (bsB (zo s.data.toList)))/\BpW w xb k v w':=(YH s (by omega)).mono λe w' t=>⟨t.1,h.2.2.out.next t.2⟩
theorem q03 (t lv k v:bn) (rz:t.size<=8) (hk:k.size<=8) (hv:v.size<=12):aD prog 111 #[Θ #[Γ t,Γ lv],Θ #[Γ k,Γ v]] w λe w'=>e=ψ (Γ (bsB (x9 t.data.toList k.data.toList v.data.toList)))/\ay w.heap.size w w':=by
 obtain⟨n,E⟩:∃n,yw t.data.toList k.data.toList=n:=⟨_,lc⟩
 have u:=Jl t.data.toList k.data.toList;rw[E]at u;have V:n<=k.size:=by simpa using u.2
 have O:=Hd (λw=>q8r (w:=w) t k (by omega));rw[E]at O;have M:(k.extract n k.size).data.toList=k.data.toList.drop n:=by simp;exact aY (by simp)
 have y:=xO (k.data.toList.drop n) (by simp;omega);have z:=xO v.data.toList (by simp;omega);have z1:(bsB (yj n)).size<=9:=by rw[vD];exact xlt (vo 8 n (by omega)) (by omega)
 have z2:(bsB (zo (k.extract n k.size).data.toList)).size<=20:=by rw[vD,M];simp at y;omega
 have z3:(bsB (zo v.data.toList)).size<=20:=by rw[vD];simp at z;omega
 have N:bsB (yj n)++bsB (zo (k.extract n k.size).data.toList)++bsB (zo v.data.toList)=bsB (x9 t.data.toList k.data.toList v.data.toList):=by unfold x9;rw[E,M,CQ,CQ]
 have U:=Hd N;have K:Hid (n<=1000/\(k.extract n k.size).size<=1000/\v.size<=1000):=Hd ⟨by omega,by simp;omega,by omega⟩;clear E u M y z N;generalize bsB (x9 t.data.toList k.data.toList v.data.toList)=rb at*;have I:=Hd (λ(w1:aa) (A B:Prop) (h:A/\B/\Hid (BpW w (w.heap.size+1) k v w1))=>jmq h K.1);have wT:=Hd (λ(w1:aa) (A B:Prop) (h:A/\B/\Hid (BpW w (w.heap.size+1) k v w1))=>LC h K.2.1);have Z:=Hd (λ(w1:aa) (A B:Prop) (h:A/\B/\Hid (BpW w (w.heap.size+1) k v w1))=>LC h K.2.2);generalize bsB (yj n)=nb at*;generalize bsB (zo (k.extract n k.size).data.toList)=T at*;generalize bsB (zo v.data.toList)=Y at*;have y1:¬9223372036854775807<nb.size+T.size:=by omega
 have y2:¬9223372036854775807<nb.size+T.size+Y.size:=by omega
 go_enter func111,ntmps111;go_wp2_with (go_at_call 112;refine(O.o _).mono ?_;rintro e w1 ⟨rfl,Q⟩;have H1:=Hd ((BpW.mk (w:=w) (xb:=w.heap.size+1) (k:=k) (v:=v) (by go_simp) (by go_simp) (((qy _ _).alloc (jg _) _).alloc (by simp) _)).next Q);obtain⟨c0,c1,_⟩:=H1.o;clear Q)
 go_region_held3 (λw'=>w'.cell? ⟨w.heap.size+1,0,ε⟩=ζ (Γ k)/\w'.cell? ⟨w.heap.size+1,1,ε⟩=ζ (Γ v)/\Hid (BpW w (w.heap.size+1) k v w'))
  (first|exact⟨c0,c1,Hd ⟨c0,c1,H1.b.drew⟩⟩|exact⟨D.c0,D.c1,D⟩|exact⟨H.c0,H.c1,H⟩|exact⟨G.c0,G.c1,G⟩)
  (first
   |(go_at_call 113;refine(I.o _ _ _ (by assumption)).mono ?_;rintro e w2 ⟨rfl,y⟩;have G:=Hd y;clear y)
   |(go_at_call 114;refine(wT.o _ _ _ (by assumption)).mono ?_;rintro e w3 ⟨rfl,z⟩;have H:=Hd z;clear z)
   |(go_at_call 114;refine(Z.o _ _ _ (by assumption)).mono ?_;rintro e w4 ⟨rfl,R⟩;have D:=Hd R;clear R))
 all_goals
  go_wp2;go_ret;rw[<-U.o];exact⟨lc,D.b⟩
theorem q1c (I lv:bn) (lg:gI) (k v:bn) (g:gI) (V:k.size<=8) (Y:v.size<=12):aD prog 116 #[Θ #[Γ I,Γ lv,χ lg],Θ #[Γ k,Γ v,χ g]] w λe w'=>e=ψ (Γ (bsB (jw ⟨k.data.toList,v.data.toList,g⟩)))/\ay w.heap.size w w':=by
 have H:=xO k.data.toList (by simp;omega);have t:=xO v.data.toList (by simp;omega);have z2:(bsB (zo k.data.toList)).size<=20:=by rw[vD];simp at H;omega
 have z3:(bsB (zo v.data.toList)).size<=20:=by rw[vD];simp at t;omega
 have K:Hid (k.size<=1000/\v.size<=1000):=Hd ⟨by omega,by omega⟩;have O:=Hd (λ(w1:aa) (A B:Prop) (h:A/\B/\Hid (BpW w (w.heap.size+1) k v w1))=>LC h K.1);have T:=Hd (λ(w1:aa) (A B:Prop) (h:A/\B/\Hid (BpW w (w.heap.size+1) k v w1))=>LC h K.2);have D:Hid (BpW w (w.heap.size+1) k v ((w.alloc (ω #[Γ I,Γ lv,χ lg] 87)).alloc (ω #[Γ k,Γ v,χ g] 87))):=Hd (BpW.mk (by go_simp) (by go_simp) (((qy _ _).alloc (jg _) _).alloc (by simp) _));cases g
 .have u:(⟨#[1]⟩:bn)++bsB (zo k.data.toList)++bsB (zo v.data.toList)=bsB (jw ⟨k.data.toList,v.data.toList,θ⟩):=by unfold jw;rw[eD (λh=>by cases h),<-CQ,<-CQ];rfl
  have G:=Hd u;clear H t u;generalize bsB (jw ⟨k.data.toList,v.data.toList,θ⟩)=Q at*;generalize bsB (zo k.data.toList)=E at*;generalize bsB (zo v.data.toList)=R at*;have U:¬9223372036854775807<1+E.size:=by omega
  have y2:¬9223372036854775807<1+E.size+R.size:=by omega
  go_enter func116,ntmps116;go_wp2;obtain⟨X,N⟩:∃X,(w.alloc (ω #[Γ I,Γ lv,χ lg] 87)).alloc (ω #[Γ k,Γ v,χ θ] 87)=X:=⟨_,lc⟩
  rw[N]at D|-;clear N;obtain⟨c0,c1,_⟩:=D.o;go_region_held3 (λw'=>w'.cell? ⟨w.heap.size+1,0,ε⟩=ζ (Γ k)/\w'.cell? ⟨w.heap.size+1,1,ε⟩=ζ (Γ v)/\Hid (BpW w (w.heap.size+1) k v w'))
   (first|exact⟨c0,c1,Hd ⟨c0,c1,D.b.drew⟩⟩|exact⟨z.c0,z.c1,z⟩|exact⟨y.c0,y.c1,y⟩)
   (first
    |(go_at_call 114;refine(O.o _ _ _ (by assumption)).mono ?_;rintro e w3 ⟨rfl,t⟩;have y:=Hd t;clear t)
    |(go_at_call 114;refine(T.o _ _ _ (by assumption)).mono ?_;rintro e Z ⟨rfl,M⟩;have z:=Hd M;clear M))
  all_goals
   go_wp2;go_ret;rw[<-G.o];exact⟨lc,z.b⟩
 .have u:(⟨#[2]⟩:bn)++bsB (zo k.data.toList)=bsB (jw ⟨k.data.toList,v.data.toList,η⟩):=by unfold jw;rw[fo lc,<-CQ];rfl
  have G:=Hd u;clear H t u;generalize bsB (jw ⟨k.data.toList,v.data.toList,η⟩)=Q at*;generalize bsB (zo k.data.toList)=E at*;have U:¬9223372036854775807<1+E.size:=by omega
  go_enter func116,ntmps116;go_wp2_with (go_at_call 114;refine(O.o _ _ _ (ac True.intro (ac True.intro D))).mono ?_;rintro e w3 ⟨rfl,t⟩;have y:=Hd t;clear t)
  go_ret;rw[<-G.o];exact⟨lc,y.b⟩
end
def jM:Bs->gI->UInt8×Bs×gI
 |[],_=>(0,[],η)
 |b::r,bad=>(b,r,bad)
def iW:dw->gI->dw->dw->Bs->gI->dw×Bs×gI
 |0,_,_,_,_,_=>(0,[],η)
 |k+1,first,a,m,s,bad=>if !first&&(jM s bad).1.toNat==0 then(0,[],η)else if(jM s bad).1.toNat<128 then(a+(jM s bad).1.toNat%128*m,(jM s bad).2)else iW k θ (a+(jM s bad).1.toNat%128*m) (m*128) (jM s bad).2.1 (jM s bad).2.2
def takeC (n:dw) (l:Bs) (bad:gI):Bs×Bs×gI:=if l.length<n then([],[],η)else(l.take n,l.drop n,bad)
theorem Ev:∀(k:dw) (first:gI) (a m:dw) (s:Bs),match oQ k first a m s with
  |some p=>iW k first a m s θ=(p.1,p.2,θ)
  |none=>(iW k first a m s θ).2=([],η)
 |0,_,_,_,_=>rfl
 |k+1,first,a,m,[]=>by show(iW (k+1) first a m [] θ).2=([],η);cases first<;>rfl
 |k+1,first,a,m,b::s=>by
  have u:=Ev k θ (a+b.toNat%128*m) (m*128) s;rw[oQ];have e:(jM (b::s) θ)=(b,s,θ):=lc;have t:iW (k+1) first a m (b::s) θ=if !first&&b.toNat==0 then(0,[],η)else if b.toNat<128 then(a+b.toNat%128*m,(s,θ))else iW k θ (a+b.toNat%128*m) (m*128) s θ:=lc
  rw[t];by_cases h1:(!first&&b.toNat==0)=η;{rw[fo h1,fo h1]};rw[eD h1,eD h1];by_cases h2:b.toNat<128;{rw[fo h2,fo h2,Nat.mod_eq_of_lt h2]};rw[eD h2,eD h2];exact u
def mU (w:aa) (cb:dw) (l:Bs) (bad:gI):Prop:=w.heap[cb]?=ζ (ω #[sv l,χ bad] 212 (0,0))
theorem qc (l:Bs):∃s:bn,s.data.toList=l:=⟨⟨l.toArray⟩,by simp⟩
theorem jl (h:s.data.toList=l):s.size=l.length:=by rw[<-h];simp
theorem ext_list (s:bn) (i j:dw):(s.extract i j).data.toList=(s.data.toList.take j).drop i:=by rw[ByteArray.data_extract,Array.toList_extract];simp[List.drop_take]
section
variable {w w':aa} {cb:dw} {l:Bs} {bad:gI}
theorem mU.cells {s:bn} (h:mU w cb l bad) (t:s.data.toList=l):w.cell? ⟨cb,0,ε⟩=ζ (Γ s)/\w.cell? ⟨cb,1,ε⟩=ζ (χ bad)/\w.frozen? ⟨cb,0,ε⟩=θ/\w.frozen? ⟨cb,1,ε⟩=θ:=by unfold mU at h;rw[qx t]at h;exact⟨by simp[ae,h],by simp[ae,h],by simp[al,h],by simp[al,h]⟩
def Br (w:aa) (cb:dw) (v:ah) (r:Bs×gI) (e:bR) (w':aa):Prop:=e=ψ v/\mU w' cb r.1 r.2/\But (· =cb) w w'
theorem mU.rest {r:Bs} (h:mU w cb l bad) (t:s.data.toList=r):mU (w.setCell ⟨cb,0,ε⟩ (Γ s)) cb r bad/\But (· =cb) w (w.setCell ⟨cb,0,ε⟩ (Γ s)):=by have k:=xhs w cb 0 _ _ (Γ s) h;exact⟨by unfold mU;rw[k,qx t];rfl,But.setCell (B:=(· =cb)) (But.refl _ _) lc _ _⟩
theorem mU.fail (h:mU w cb l bad):mU ((w.setCell ⟨cb,1,ε⟩ (χ η)).setCell ⟨cb,0,ε⟩ (Γ ⟨#[]⟩)) cb [] η/\But (· =cb) w ((w.setCell ⟨cb,1,ε⟩ (χ η)).setCell ⟨cb,0,ε⟩ (Γ ⟨#[]⟩)):=by have t:=xhs w cb 1 _ _ (χ η) h;have u:=xhs _ cb 0 _ _ (Γ ⟨#[]⟩) t;exact⟨u.trans lc,But.setCell (B:=(· =cb)) (But.setCell (B:=(· =cb)) (But.refl _ _) lc _ _) lc _ _⟩
theorem LY (h:mU w cb l bad):aD prog 138 #[ξ (ζ ⟨cb,0,ε⟩)] w (Br w cb (ο #[]) ([],η)):=by obtain⟨s,t⟩:=qc l;obtain⟨c0,c1,y,z⟩:=h.cells t;have u:=Hd h.fail;clear h t;go_enter func138,ntmps138;go_wp2;go_end0;exact⟨lc,u.o⟩
theorem IL (h:mU w cb l bad):aD prog 127 #[ξ (ζ ⟨cb,0,ε⟩)] w (Br w cb (σ Ξ (jM l bad).1.toNat) (jM l bad).2):=by
 obtain⟨s,t⟩:=qc l;obtain⟨c0,c1,I,K⟩:=h.cells t;have y:=jl t;cases l with
 |nil=>
  have G:s.toList.isEmpty=η:=by rw[toList_nil (by simpa using y)];rfl
  have D:=Hd (LY h);clear h t y;go_enter func127,ntmps127;go_wp2_with (go_at_call 138;refine D.mono ?_;rintro e w1 ⟨rfl,u⟩;have H1:=Hd u;clear u)
  go_ret;exact⟨lc,H1.o⟩
 |cons b r=>
  simp at y;have hz:0<s.size:=by omega
  have G:s.toList.isEmpty=θ:=Jr hz;have M:(s[0]'hz)=b:=by
   have u:s[0]'hz=s.data.toList[0]'(by rw[t];simp):=by simp[aC]
   rw[u];simp[t]
  have z:(s.extract 1 s.size).data.toList=r:=by rw[ext_list,aY (by simp),t];rfl
  have E:=Hd (h.rest z);have H:((1:gJ)<=s.size):=by omega
  clear h t z y;go_enter func127,ntmps127;go_wp2;go_ret;exact⟨lc,E.o⟩
theorem jac (h:mU w cb l bad) (n:dw):aD prog 139 #[ξ (ζ ⟨cb,0,ε⟩),σ υ n] w (Br w cb (sv (takeC n l bad).1) (takeC n l bad).2):=by
 obtain⟨s,t⟩:=qc l;obtain⟨c0,c1,M,N⟩:=h.cells t;have H:=jl t;by_cases eZ:l.length<n
 .rw[show takeC n l bad=([],[],η)from fo eZ];have G:ν ((s.size:gJ)<n)=η:=xdt (by omega);have z:=Hd (LY h);clear h t;go_enter func139,ntmps139;go_wp2_with (go_at_call 138;refine z.mono ?_;rintro e w1 ⟨rfl,u⟩;have H1:=Hd u;clear u)
  go_ret;exact⟨lc,H1.o⟩
 .rw[show takeC n l bad=(l.take n,l.drop n,bad)from eD eZ];have G:ν ((s.size:gJ)<n)=θ:=xdf (by omega);have y:(s.extract n s.size).data.toList=l.drop n:=by rw[ext_list,aY (by simp),t]
  have D:=Hd (h.rest y);have E:Hid (sv (l.take n)=Γ (s.extract 0 n)):=Hd (qx (by rw[ext_list,t];rfl));have I:((n:gJ)<=s.size):=by omega
  have K:n<=s.size:=by omega
  rw[show(l.take n,l.drop n,bad).1=l.take n from lc,E.o];clear h t y H eZ;go_enter func139,ntmps139;go_wp2;go_ret;exact⟨lc,D.o⟩
structure JJ (w:aa) (cb:dw) (l0:Bs) (rQ:gI) (j a:dw) (wr:aa):Prop where
 b:∃l bad,mU wr cb l bad/\iW 4 η 0 1 l0 rQ=iW (4-j) (j==0) a (128^j) l bad
 a:a<128^j
 but:But (· =cb) w wr
theorem jg0 {a m:dw} (j:dw) (h:a<128^j) (t:m=128^j):a|||(b*m)=a+b*m:=by
 have e:128^j=2^(7*j):=by rw[Nat.pow_mul]
 rw[t,e,Nat.or_comm,<-Nat.shiftLeft_eq,Nat.add_comm];exact(Nat.shiftLeft_add_eq_or_of_lt (by rw[<-e];exact h) b).symm
theorem jgr {a c:dw} (H:j<4) (D:a<128^j) (E:c<256):bits .or .i64 (a:gJ) (wrap64 (wrap64 (bits .and .u8 (c:gJ) 127)*2^(7*j)))=((a+c%128*128^j:dw):gJ):=by
 have t:=u8_and_nat c 127 E (by decide);rw[show((127:dw):gJ)=127 from lc,show c&&&127=c%128 from Nat.and_two_pow_sub_one_eq_mod c 7]at t;have G:128^j<=128^3:=Nat.pow_le_pow_right (by decide) (by omega);have I:c%128*128^j<=127*128^3:=Nat.mul_le_mul (by omega) G;have u:((2:gJ)^(7*j))=((128^j:dw):gJ):=by rw[Int.pow_mul];simp
 have y:wrap64 ((c%128:dw):gJ)=((c%128:dw):gJ):=by unfold wrap64;omega
 have z:wrap64 (((c%128*128^j:dw)):gJ)=((c%128*128^j:dw):gJ):=by unfold wrap64;omega
 rw[t,y,u,<-Int.natCast_mul,z,qxn a _ (by omega) (by omega),jg0 j D lc]
theorem JJ.step {w0 w2:aa} {y t:Bs} {z u:gI} {j a:dw} (h:JJ w0 cb y z j a w) (O:j<4) (D:iW 4 η 0 1 y z=iW (4-j) (j==0) a (128^j) t u) (G:mU w2 cb (jM t u).2.1 (jM t u).2.2/\But (· =cb) w w2):
  (0<j->(jM t u).1.toNat=0->iW 4 η 0 1 y z=(0,[],η))/\(¬(0<j/\(jM t u).1.toNat=0)->(jM t u).1.toNat<128->iW 4 η 0 1 y z=(a+(jM t u).1.toNat%128*128^j,(jM t u).2))/\(128<=(jM t u).1.toNat->JJ w0 cb y z (j+1) (a+(jM t u).1.toNat%128*128^j) w2):=by
 obtain⟨q,I⟩:∃q,4-j=q+1:=⟨3-j,by omega⟩
 have K:4-(j+1)=q:=by omega
 obtain⟨X,H⟩:∃X,iW 4 η 0 1 y z=X:=⟨_,lc⟩
 rw[H]at D|-;rw[I,iW]at D;refine⟨λM E=>?_,λQ E=>?_,λE=>⟨⟨_,_,G.1,?_⟩,?_,h.but.trans G.2⟩⟩;{rw[D,fo (by rw[E];simp;omega)]};{rw[D,eD (by simp only[am,cu,ky,kw];omega),fo E]};{rw[H,D,eD (by simp only[am,cu,ky,kw];omega),eD (by omega),K,bK];rfl};have:=h.a;have N:(jM t u).1.toNat%128*128^j<=127*128^j:=bV _ (by omega);rw[bK];omega
theorem Es (h:mU w cb l bad):aD prog 128 #[ξ (ζ ⟨cb,0,ε⟩)] w (Br w cb (σ υ (iW 4 η 0 1 l bad).1) (iW 4 η 0 1 l bad).2):=by
 have N:Hid (JJ w cb l bad 0 0 w):=Hd ⟨⟨l,bad,h,lc⟩,by decide,But.refl _ _⟩;clear h;go_enter func128,ntmps128;go_wp2;go_loopw [3,4] (λn k wr=>∃j a:dw,j<=4/\n=σ υ a/\k=σ υ (7*j:dw)/\Hid (JJ w cb l bad j a wr)) (λ_ k _=>28-(intOf k).toNat);case atStart=>exact⟨0,0,by omega,lc,lc,N⟩
 case round=>
  obtain⟨j,a,T,rfl,rfl,u⟩:=hrel;obtain⟨I,K,D,t⟩:=u.b;have M:=Hd D;have HE:=Hd t;clear D t;by_cases rE:j<4
  .have G:=Hd (IL M.o);have O:=jgr rE u.a (xM (jM I K).1);obtain⟨c,H⟩:∃c,(jM I K).1.toNat=c:=⟨_,lc⟩
   have y:=Hd (λw2 h=>u.step (w2:=w2) rE HE.o h);rw[H]at G y O;clear H;go_wp2_with (first
    |(go_at_call 127;refine G.mono ?_;rintro e w1 ⟨rfl,D⟩;have H1:=Hd D;clear D)
    |(go_at_call 138;refine(LY H1.1).mono ?_;rintro e w2 ⟨rfl,t⟩;have z:=Hd t;clear t))
   .rename_i Q E;go_ret;rw[Br,(y.o _ H1.o).1 (by omega) (by simpa using E)];exact⟨lc,z.1,u.but.trans (H1.2.trans z.2)⟩
   .rename_i Q E R;go_ret;rw[Br,(y.o _ H1.o).2.1 (λe=>by have:=e.2;simp[this]at E) (by omega)];exact⟨by simp,H1.1,u.but.trans H1.2⟩
   .go_roundw;case rel=>exact⟨j+1,_,by omega,by simp,by go_num,Hd ((y.o _ H1.o).2.2 (by omega))⟩
    case measure=>simp[intOf];omega
   .rename_i E R;go_ret;rw[Br,(y.o _ H1.o).2.1 (by omega) (by omega)];exact⟨by simp,H1.1,u.but.trans H1.2⟩
   .go_roundw;case rel=>exact⟨j+1,_,by omega,by simp,by go_num,Hd ((y.o _ H1.o).2.2 (by omega))⟩
    case measure=>simp[intOf];omega
  .obtain rfl:j=4:=by omega
   go_wp2_with (go_at_call 138;refine(LY M.o).mono ?_;rintro e w2 ⟨rfl,t⟩;have z:=Hd t;clear t)
   go_ret;exact⟨by rw[HE.o];rfl,by rw[HE.o];exact z.1,u.but.trans z.2⟩
def mQ (l:Bs) (bad:gI):Bs×Bs×gI:=takeC (iW 4 η 0 1 l bad).1 (iW 4 η 0 1 l bad).2.1 (iW 4 η 0 1 l bad).2.2
theorem WU (l:Bs) (bad:gI):(jM l bad).2.1.length<=l.length:=by
 cases l with
 |nil=>exact jg _
 |cons b r=>exact Nat.le_succ _
theorem Gx:∀(k:dw) (first:gI) (a m:dw) (l:Bs) (bad:gI),(iW k first a m l bad).2.1.length<=l.length
 |0,_,_,_,_,_=>xzl _
 |k+1,first,a,m,l,bad=>by have h:=WU l bad;rw[iW];split;{exact xzl _};split;{exact h};exact xlt (Gx ..) h
theorem I7:∀(k:dw) (first:gI) (a m:dw) (l:Bs) (bad:gI),(iW k first a m l bad).1+m<=a+m*128^k
 |0,_,a,m,_,_=>by show 0+m<=a+m*128^0;omega
 |k+1,first,a,m,l,bad=>by
  have u:m*128<=m*128^(k+1):=Nat.mul_le_mul_left _ (by rw[bK];have:0<128^k:=Nat.pow_pos (by decide);omega);have t:(jM l bad).1.toNat%128*m<=127*m:=bV _ (by omega);rw[iW];split;{show 0+m<=_;omega}
  .split;{show a+(jM l bad).1.toNat%128*m+m<=_;omega}
   .have h:=I7 k θ (a+(jM l bad).1.toNat%128*m) (m*128) (jM l bad).2.1 (jM l bad).2.2;have e:m*128*128^k=m*128^(k+1):=by rw[bK,Nat.mul_comm (128^k),Nat.mul_assoc]
    rw[e]at h;omega
theorem Bl (h:mU w cb l bad):aD prog 129 #[ξ (ζ ⟨cb,0,ε⟩)] w (Br w cb (sv (mQ l bad).1) (mQ l bad).2):=by
 have E:=Hd (Es h);unfold mQ;obtain⟨X,H⟩:∃X,iW 4 η 0 1 l bad=X:=⟨_,lc⟩
 rw[H]at E|-;clear h H;obtain⟨n,u,y⟩:=X;have z:=Hd (λw1 (t:mU w1 cb u y)=>jac t n);obtain⟨Y,I⟩:∃Y,takeC n u y=Y:=⟨_,lc⟩
 show aD _ _ _ _ (Br w cb (sv (takeC n u y).1) (takeC n u y).2);rw[I]at z|-;clear I;obtain⟨s,K⟩:=qc Y.1;rw[qx K]at z|-;clear K;go_enter func129,ntmps129;go_wp2_with (first
  |(go_at_call 128;refine E.mono ?_;rintro e w1 ⟨rfl,t⟩;have H1:=Hd t;clear t)
  |(go_at_call 139;refine(z.o _ H1.1).mono ?_;rintro e w2 ⟨rfl,G⟩;have D:=Hd G;clear G))
 go_ret;exact⟨lc,D.1,H1.2.trans D.2⟩
end
section
variable {w:aa}
def rX:Bs->KV->Bs->dw->Bs×dw
 |_,[],s,n=>(s,n)
 |last,p::r,s,n=>if 0<n/\40<1+s.length+(x9 last p.1 p.2).length then(s,n)else rX p.1 r (s++x9 last p.1 p.2) (n+1)
def l7 (l:KV):Bs×dw:=(yj (rX [] l [] 0).2++(rX [] l [] 0).1,(rX [] l [] 0).2)
def NC (w:aa) (v:ah) (l:KV):Prop:= ∃sa cp,v=.slice sa l.length cp/\∀i p,l[i]?=ζ p->∃g o,sa=ζ ⟨g,o,ε⟩/\w.cell? ⟨g,o+i*2,ε⟩=ζ (sv p.1)/\w.cell? ⟨g,o+i*2+1,ε⟩=ζ (sv p.2)
structure FbW (w:aa) (l:KV) (last lD sb:bn) (nn j:dw) (wr:aa):Prop where
 eq:rX [] l [] 0=rX last.data.toList (l.drop j) sb.data.toList nn
 sz:sb.size<=39
 c:wr.heap[w.heap.size]?=ζ (ω #[Γ last,Γ lD] 74 (0,0))
 b:ay w.heap.size w wr
 ll:last.size<=8
theorem FbW.below {w wr:aa} {l:KV} (h:FbW w l last lD sb nn j wr) (t:ay wr.heap.size wr w2):FbW w l last lD sb nn j w2:={h with c:=(t.block _ (j5 h.c).1).trans h.c,b:=h.b.trans (t.mono h.b.size)}
theorem FbW.cells {last lD sb:bn} {w wr:aa} {l:KV} {nn j:dw} (h:FbW w l last lD sb nn j wr):wr.cell? ⟨w.heap.size,0,ε⟩=ζ (Γ last)/\wr.cell? ⟨w.heap.size,1,ε⟩=ζ (Γ lD)/\(∀i,wr.frozen? ⟨w.heap.size,i,ε⟩=θ):=⟨by simp[ae,h.c],by simp[ae,h.c],λi=>by simp[al,h.c]⟩
theorem FbW.more {w:aa} {l:KV} {kb:bn} (h:FbW w l last lD sb nn j w2) (E:l[j]?=ζ p) (G:kb.data.toList=p.1) (N:vb.data.toList=p.2) (t:bsB (x9 last.data.toList p.1 p.2)=pb) (y:¬(0<nn/\40<1+sb.size+pb.size)) (M:pb.size<=25) (I:kb.size<=8) (K:nn=0->sb.size=0):
  FbW w l kb vb (sb++pb) (nn+1) (j+1) ((w2.setCell ⟨w.heap.size,0,ε⟩ (Γ kb)).setCell ⟨w.heap.size,1,ε⟩ (Γ vb)):=by
 have H:pb.size=(x9 last.data.toList p.1 p.2).length:=by rw[<-t,vD]
 have z:(sb++pb).size=sb.size+pb.size:=by simp
 refine{eq:=?_,sz:=by rw[z];omega,c:=?_,b:=(h.b.setCell (jg _) _).setCell (jg _) _,ll:=I}
 .obtain⟨D,rfl⟩:=ai.1 E;rw[h.eq,ax D,rX,eD (by rw[<-H];simpa using y)];have u:(sb++pb).data.toList=sb.data.toList++x9 last.data.toList l[j].1 l[j].2:=by rw[<-t];simp[bsB]
  rw[u,G]
 .have c1:=xhs w2 w.heap.size 0 _ _ (Γ kb) h.c;have c2:=xhs _ w.heap.size 1 _ _ (Γ vb) c1;exact c2
theorem FbW.stop {w wr:aa} {l:KV} (h:FbW w l last lD sb nn j wr) (y:l[j]?=ζ p) (z:bsB (x9 last.data.toList p.1 p.2)=pb) (t:0<nn/\40<1+sb.size+pb.size):rX [] l [] 0=(sb.data.toList,nn):=by
 have D:pb.size=(x9 last.data.toList p.1 p.2).length:=by rw[<-z,vD]
 obtain⟨u,rfl⟩:=ai.1 y;rw[h.eq,ax u,rX,fo (by rw[<-D];simpa using t)]
theorem FbW.fin {w wr:aa} {l:KV} (h:FbW w l last lD sb nn l.length wr):rX [] l [] 0=(sb.data.toList,nn):=by rw[h.eq,List.drop_length,rX]
theorem YX {l:KV} (h:rX [] l [] 0=(sb.data.toList,nn)):bsB (l7 l).1=(⟨(yj nn).toArray⟩:bn)++sb/\(l7 l).2=nn:=by unfold l7;rw[h];exact⟨by rw[<-CQ,LV (b:=sb) lc];rfl,lc⟩
theorem ja1 {v:ah} {l:KV} (hv:NC w v l) (hl:l.length<=16777216) (hk:∀p∈l,p.1.length<=8/\p.2.length<=12):aD prog 110 #[v,.func (.func 111) #[] #[]] w λe w'=>e=ψ (ο #[Γ (bsB (l7 l).1),σ υ ((l7 l).2:dw)])/\ay w.heap.size w w':=by
 obtain⟨sa,cp,rfl,hc⟩:=hv;have HC:=Hd hc;have HK:=Hd hk;clear hc hk;go_enter func110,ntmps110;go_wp2;go_loopw [7,8,14] (λs n i wr=>∃(j nn:dw) (last lD sb:bn),s=Γ sb/\n=σ υ nn/\i=σ υ j/\j<=l.length/\nn<=j/\Hid (FbW w l last lD sb nn j wr/\(nn=0->sb.size=0))) (λ_ _ i _=>l.length-(intOf i).toNat);case atStart=>exact⟨0,0,⟨#[]⟩,⟨#[]⟩,⟨#[]⟩,lc,lc,lc,xzl _,jg _,Hd ⟨{eq:=by simp,sz:=by decide,c:=az _ _,b:=(qy _ _).alloc (jg _) _,ll:=xzl _},λ_=>lc⟩⟩
 case round=>
  obtain⟨j,nn,last,lD,sb,rfl,rfl,rfl,hj,yM,t⟩:=hrel;have gM:=t.1.sz;by_cases iR:j<l.length
  .obtain⟨p,N⟩:∃p,l[j]?=ζ p:=⟨_,aA iR⟩
   obtain⟨g,o,rfl,K⟩:=HC.o j p N;obtain⟨R,Q⟩:=HK.o p (aB N);obtain⟨y,H⟩:=qc p.1;obtain⟨vb,I⟩:=qc p.2;rw[qx H,qx I]at K;have Dk:y.size<=8:=by rw[jl H];exact R
   have JW:vb.size<=12:=by rw[jl I];exact Q
   have V:=λ(a:Addr) (u:ah) (h:w.cell? a=ζ u)=>(t.1.b.cell (xbl w a h)).trans h;obtain⟨pb,O⟩:∃pb,bsB (x9 last.data.toList p.1 p.2)=pb:=⟨_,lc⟩
   have Oi:pb.size<=25:=by rw[<-O,vD];exact QY _ _ _ (by simpa using t.1.ll) R Q
   have HP:Hid (∀W,aD prog 111 #[Θ #[Γ last,Γ lD],Θ #[Γ y,Γ vb]] W λe w'=>e=ψ (Γ pb)/\ay W.heap.size W w'):=Hd λW=>by have h:=q03 (w:=W) last lD y vb t.1.ll Dk JW;rw[H,I,O]at h;exact h
   have D:=Hd (ac N (ac H (ac I O)));have d0:=V _ _ K.1;have d1:=V _ _ K.2;clear V K N H I O R Q;have T:=Hd (t.1.below ((qy wr.heap.size wr).alloc (jg _) (ω #[Γ y,Γ vb] 74)));obtain⟨l0,l1,lf⟩:=T.cells;have x0:(wr.alloc (ω #[Γ y,Γ vb] 74)).cell? ⟨wr.heap.size,0,ε⟩=ζ (Γ y):=by go_simp
   have x1:(wr.alloc (ω #[Γ y,Γ vb] 74)).cell? ⟨wr.heap.size,1,ε⟩=ζ (Γ vb):=by go_simp
   have kS:nn=0\/(0<nn/\40<1+sb.size+pb.size)\/(0<nn/\¬40<1+sb.size+pb.size):=by omega
   rcases kS with rfl|⟨M,h2⟩|⟨M,h2⟩;rotate_left
   .have g1:ν (0<nn)=η:=xdt M;have g2:ν ((40:gJ)<1+sb.size+pb.size)=η:=xdt (by omega);have HE:=Hd (t.1.stop D.1 D.2.2.2 ⟨M,h2⟩);have J7:=vo 8 nn (by omega);have y1:¬9223372036854775807<(yj nn).length+sb.size:=by omega
    go_wp2_with (first
     |(go_at_call 111;refine(HP.o _).mono ?_;rintro e w2 ⟨rfl,z⟩;have E:=Hd (T.below z);obtain⟨m0,m1,mf⟩:=E.cells;clear z)
     |(go_at_call 113;refine(Cy nn (by omega)).mono ?_;rintro e w3 ⟨rfl,G⟩;have U:=Hd (E.below G);clear G))
    go_ret2;obtain⟨Y,Z⟩:=YX HE.o;rw[Y,Z];exact⟨lc,U.b⟩
   all_goals
    first|have g1:ν (0<nn)=η:=xdt M|have g1:kZ:=trivial
    first|have g2:ν ((40:gJ)<1+sb.size+pb.size)=θ:=xdf (by omega)|have g2:kZ:=trivial
    have y1:¬9223372036854775807<sb.size+pb.size:=by omega
    go_wp2_with (go_at_call 111;refine(HP.o _).mono ?_;rintro e w2 ⟨rfl,z⟩;have E:=Hd (T.below z);obtain⟨m0,m1,mf⟩:=E.cells;have n0:=(z.cell (xbl _ _ x0)).trans x0;have n1:=(z.cell (xbl _ _ x1)).trans x1;clear z)
    go_roundw;case rel=>exact⟨j+1,_,y,vb,sb++pb,lc,by go_num,by go_num,by omega,by omega,Hd ⟨E.more D.1 D.2.1 D.2.2.1 D.2.2.2 (by omega) Oi Dk (by first|exact t.2|exact λ_=>t.2 trivial),λh=>by omega⟩⟩
    case measure=>simp[intOf]<;>omega
  .obtain rfl:j=l.length:=by omega
   have HE:=Hd t.1.fin;have J7:=vo 8 nn (by omega);have y1:¬9223372036854775807<(yj nn).length+sb.size:=by omega
   go_wp2_with (go_at_call 113;refine(Cy nn (by omega)).mono ?_;rintro e w3 ⟨rfl,G⟩;have U:=Hd (t.1.below G);clear G)
   go_ret2;obtain⟨Y,Z⟩:=YX HE.o;rw[Y,Z];exact⟨lc,U.b⟩
theorem q98 {v:ah} {l:KV} (z:NC w v l) (y:l.length<=16777216) (u:∀p∈l,p.1.length<=8/\p.2.length<=12):aD prog 73 #[v] w λe w'=>e=ψ (ο #[Γ (bsB (l7 l).1),σ υ ((l7 l).2:dw)])/\ay w.heap.size w w':=by
 have D:=Hd (ja1 z y u);generalize bsB (l7 l).1=E at*;generalize (l7 l).2=G at*;clear z y u;go_enter func73,ntmps73;go_wp2_with (go_at_call 110;refine D.mono ?_;rintro e w1 ⟨rfl,t⟩;have H1:=Hd t;clear t)
 go_ret2;exact⟨lc,H1.o⟩
def rY:gF Chg->Bs->dw->Bs×dw
 |[],s,n=>(s,n)
 |p::r,s,n=>if 0<n/\40<1+s.length+(jw p).length then(s,n)else rY r (s++jw p) (n+1)
def l6 (l:gF Chg):Bs×dw:=(yj (rY l [] 0).2++(rY l [] 0).1,(rY l [] 0).2)
def JL (w:aa) (v:ah) (l:gF Chg):Prop:= ∃sa cp,v=.slice sa l.length cp/\∀i p,l[i]?=ζ p->∃g o,sa=ζ ⟨g,o,ε⟩/\w.cell? ⟨g,o+i*3,ε⟩=ζ (sv p.k)/\w.cell? ⟨g,o+i*3+1,ε⟩=ζ (sv p.v)/\w.cell? ⟨g,o+i*3+2,ε⟩=ζ (χ p.g)
structure FdW (w:aa) (l:gF Chg) (last lD:bn) (lg:gI) (sb:bn) (nn j:dw) (wr:aa):Prop where
 eq:rY l [] 0=rY (l.drop j) sb.data.toList nn
 sz:sb.size<=39
 c:wr.heap[w.heap.size]?=ζ (ω #[Γ last,Γ lD,χ lg] 87 (0,0))
 b:ay w.heap.size w wr
theorem FdW.below {w wr:aa} {l:gF Chg} (h:FdW w l last lD lg sb nn j wr) (t:ay wr.heap.size wr w2):FdW w l last lD lg sb nn j w2:={h with c:=(t.block _ (j5 h.c).1).trans h.c,b:=h.b.trans (t.mono h.b.size)}
theorem FdW.cells {last lD sb:bn} {lg:gI} {w wr:aa} {l:gF Chg} {nn j:dw} (h:FdW w l last lD lg sb nn j wr):wr.cell? ⟨w.heap.size,0,ε⟩=ζ (Γ last)/\wr.cell? ⟨w.heap.size,1,ε⟩=ζ (Γ lD)/\wr.cell? ⟨w.heap.size,2,ε⟩=ζ (χ lg)/\(∀i,wr.frozen? ⟨w.heap.size,i,ε⟩=θ):=⟨by simp[ae,h.c],by simp[ae,h.c],by simp[ae,h.c],λi=>by simp[al,h.c]⟩
theorem FdW.more {w:aa} {l:gF Chg} {p:Chg} {kb:bn} (h:FdW w l last lD lg sb nn j w2) (G:l[j]?=ζ p) (M:kb.data.toList=p.k) (N:vb.data.toList=p.v) (t:bsB (jw p)=pb) (z:¬(0<nn/\40<1+sb.size+pb.size)) (K:pb.size<=25) (O:kb.size<=8) (I:nn=0->sb.size=0):
  FdW w l kb vb p.g (sb++pb) (nn+1) (j+1) (((w2.setCell ⟨w.heap.size,0,ε⟩ (Γ kb)).setCell ⟨w.heap.size,1,ε⟩ (Γ vb)).setCell ⟨w.heap.size,2,ε⟩ (χ p.g)):=by
 have H:pb.size=(jw p).length:=by rw[<-t,vD]
 have D:(sb++pb).size=sb.size+pb.size:=by simp
 refine{eq:=?_,sz:=by rw[D];omega,c:=?_,b:=((h.b.setCell (jg _) _).setCell (jg _) _).setCell (jg _) _}
 .obtain⟨E,rfl⟩:=ai.1 G;rw[h.eq,ax E,rY,eD (by rw[<-H];simpa using z)];have y:(sb++pb).data.toList=sb.data.toList++jw l[j]:=by rw[<-t];simp[bsB]
  rw[y]
 .have c1:=xhs w2 w.heap.size 0 _ _ (Γ kb) h.c;have c2:=xhs _ w.heap.size 1 _ _ (Γ vb) c1;have u:=xhs _ w.heap.size 2 _ _ (χ p.g) c2;exact u
theorem FdW.stop {w wr:aa} {l:gF Chg} {p:Chg} (h:FdW w l last lD lg sb nn j wr) (y:l[j]?=ζ p) (z:bsB (jw p)=pb) (t:0<nn/\40<1+sb.size+pb.size):rY l [] 0=(sb.data.toList,nn):=by
 have D:pb.size=(jw p).length:=by rw[<-z,vD]
 obtain⟨u,rfl⟩:=ai.1 y;rw[h.eq,ax u,rY,fo (by rw[<-D];simpa using t)]
theorem FdW.fin {w wr:aa} {l:gF Chg} (h:FdW w l last lD lg sb nn l.length wr):rY l [] 0=(sb.data.toList,nn):=by rw[h.eq,List.drop_length,rY]
theorem YZ {l:gF Chg} (h:rY l [] 0=(sb.data.toList,nn)):bsB (l6 l).1=(⟨(yj nn).toArray⟩:bn)++sb/\(l6 l).2=nn:=by unfold l6;rw[h];exact⟨by rw[<-CQ,LV (b:=sb) lc];rfl,lc⟩
theorem ja0 {v:ah} {l:gF Chg} (hv:JL w v l) (hl:l.length<=16777216) (hk:∀p∈l,p.k.length<=8/\p.v.length<=12):aD prog 115 #[v,.func (.func 116) #[] #[]] w λe w'=>e=ψ (ο #[Γ (bsB (l6 l).1),σ υ ((l6 l).2:dw)])/\ay w.heap.size w w':=by
 obtain⟨sa,cp,rfl,hc⟩:=hv;have HC:=Hd hc;have HK:=Hd hk;clear hc hk;go_enter func115,ntmps115;go_wp2;go_loopw [7,8,14] (λs n i wr=>∃(j nn:dw) (last lD:bn) (lg:gI) (sb:bn),s=Γ sb/\n=σ υ nn/\i=σ υ j/\j<=l.length/\nn<=j/\Hid (FdW w l last lD lg sb nn j wr/\(nn=0->sb.size=0))) (λ_ _ i _=>l.length-(intOf i).toNat);case atStart=>exact⟨0,0,⟨#[]⟩,⟨#[]⟩,θ,⟨#[]⟩,lc,lc,lc,xzl _,jg _,Hd ⟨{eq:=by simp,sz:=by decide,c:=az _ _,b:=(qy _ _).alloc (jg _) _},λ_=>lc⟩⟩
 case round=>
  obtain⟨j,nn,last,lD,lg,sb,rfl,rfl,rfl,hj,yM,y⟩:=hrel;have gM:=y.1.sz;by_cases iR:j<l.length
  .obtain⟨p,O⟩:∃p,l[j]?=ζ p:=⟨_,aA iR⟩
   obtain⟨g,o,rfl,G⟩:=HC.o j p O;obtain⟨T,R⟩:=HK.o p (aB O);obtain⟨t,I⟩:=qc p.k;obtain⟨vb,K⟩:=qc p.v;rw[qx I,qx K]at G;have Dk:t.size<=8:=by rw[jl I];exact T
   have JW:vb.size<=12:=by rw[jl K];exact R
   have M:=λ(a:Addr) (u:ah) (h:w.cell? a=ζ u)=>(y.1.b.cell (xbl w a h)).trans h;obtain⟨pb,Q⟩:∃pb,bsB (jw p)=pb:=⟨_,lc⟩
   have Oi:pb.size<=25:=by rw[<-Q,vD];exact QW _ T R
   have HP:Hid (∀W,aD prog 116 #[Θ #[Γ last,Γ lD,χ lg],Θ #[Γ t,Γ vb,χ p.g]] W λe w'=>e=ψ (Γ pb)/\ay W.heap.size W w'):=Hd λW=>by have h:=q1c (w:=W) last lD lg t vb p.g Dk JW;rw[I,K]at h;rw[<-Q];exact h
   have D:=Hd (ac O (ac I (ac K Q)));have d0:=M _ _ G.1;have d1:=M _ _ G.2.1;have d2:=M _ _ G.2.2;clear M G O I K Q T R;have U:=Hd (y.1.below ((qy wr.heap.size wr).alloc (jg _) (ω #[Γ t,Γ vb,χ p.g] 87)));obtain⟨l0,l1,l2,lf⟩:=U.cells;have x0:(wr.alloc (ω #[Γ t,Γ vb,χ p.g] 87)).cell? ⟨wr.heap.size,0,ε⟩=ζ (Γ t):=by go_simp
   have x1:(wr.alloc (ω #[Γ t,Γ vb,χ p.g] 87)).cell? ⟨wr.heap.size,1,ε⟩=ζ (Γ vb):=by go_simp
   have x2:(wr.alloc (ω #[Γ t,Γ vb,χ p.g] 87)).cell? ⟨wr.heap.size,2,ε⟩=ζ (χ p.g):=by go_simp
   have kS:nn=0\/(0<nn/\40<1+sb.size+pb.size)\/(0<nn/\¬40<1+sb.size+pb.size):=by omega
   rcases kS with rfl|⟨N,h2⟩|⟨N,h2⟩;rotate_left
   .have g1:ν (0<nn)=η:=xdt N;have g2:ν ((40:gJ)<1+sb.size+pb.size)=η:=xdt (by omega);have HE:=Hd (y.1.stop D.1 D.2.2.2 ⟨N,h2⟩);have J7:=vo 8 nn (by omega);have y1:¬9223372036854775807<(yj nn).length+sb.size:=by omega
    go_wp2_with (first
     |(go_at_call 116;refine(HP.o _).mono ?_;rintro e w2 ⟨rfl,z⟩;have E:=Hd (U.below z);obtain⟨m0,m1,m2,mf⟩:=E.cells;clear z)
     |(go_at_call 113;refine(Cy nn (by omega)).mono ?_;rintro e w3 ⟨rfl,H⟩;have V:=Hd (E.below H);clear H))
    go_ret2;obtain⟨Y,Z⟩:=YZ HE.o;rw[Y,Z];exact⟨lc,V.b⟩
   all_goals
    first|have g1:ν (0<nn)=η:=xdt N|have g1:kZ:=trivial
    first|have g2:ν ((40:gJ)<1+sb.size+pb.size)=θ:=xdf (by omega)|have g2:kZ:=trivial
    have y1:¬9223372036854775807<sb.size+pb.size:=by omega
    go_wp2_with (go_at_call 116;refine(HP.o _).mono ?_;rintro e w2 ⟨rfl,z⟩;have E:=Hd (U.below z);obtain⟨m0,m1,m2,mf⟩:=E.cells;have n0:=(z.cell (xbl _ _ x0)).trans x0;have n1:=(z.cell (xbl _ _ x1)).trans x1;have n2:=(z.cell (xbl _ _ x2)).trans x2;clear z)
    go_roundw;case rel=>exact⟨j+1,_,t,vb,p.g,sb++pb,lc,by go_num,by go_num,by omega,by omega,Hd ⟨E.more D.1 D.2.1 D.2.2.1 D.2.2.2 (by omega) Oi Dk (by first|exact y.2|exact λ_=>y.2 trivial),λh=>by omega⟩⟩
    case measure=>simp[intOf]<;>omega
  .obtain rfl:j=l.length:=by omega
   have HE:=Hd y.1.fin;have J7:=vo 8 nn (by omega);have y1:¬9223372036854775807<(yj nn).length+sb.size:=by omega
   go_wp2_with (go_at_call 113;refine(Cy nn (by omega)).mono ?_;rintro e w3 ⟨rfl,H⟩;have V:=Hd (y.1.below H);clear H)
   go_ret2;obtain⟨Y,Z⟩:=YZ HE.o;rw[Y,Z];exact⟨lc,V.b⟩
theorem jag {v:ah} {l:gF Chg} (z:JL w v l) (y:l.length<=16777216) (u:∀p∈l,p.k.length<=8/\p.v.length<=12):aD prog 74 #[v] w λe w'=>e=ψ (ο #[Γ (bsB (l6 l).1),σ υ ((l6 l).2:dw)])/\ay w.heap.size w w':=by
 have D:=Hd (ja0 z y u);generalize bsB (l6 l).1=E at*;generalize (l6 l).2=G at*;clear z y u;go_enter func74,ntmps74;go_wp2_with (go_at_call 115;refine D.mono ?_;rintro e w1 ⟨rfl,t⟩;have H1:=Hd t;clear t)
 go_ret2;exact⟨lc,H1.o⟩
end
theorem Qc (l:Bs):match zu l with
  |some p=>mQ l θ=(p.1,p.2,θ)
  |none=>(mQ l θ).2=([],η):=by
 have h:=Ev 4 η 0 1 l;unfold zu zw mQ;cases hn:oQ 4 η 0 1 l with
 |none=>rw[hn]at h;simp only at h;rw[bz];show(takeC _ (iW 4 η 0 1 l θ).2.1 (iW 4 η 0 1 l θ).2.2).2=_;rw[h];unfold takeC;split<;>simp
 |some p=>rw[hn]at h;simp only at h;rw[h,aw];unfold takeC;by_cases e:p.2.length<p.1;{simp only[fo e]};simp only[eD e]
theorem EA (k:dw) (first:gI) (a m:dw):(iW k first a m [] η).2=([],η):=by cases k<;>cases first<;>rfl
theorem Jh:(mQ [] η).2=([],η):=by unfold mQ takeC;rw[EA];split<;>simp
def frC (l:Bs):Fr×Bs×gI:=
 let c1:=jM l θ
 let c2:=jM c1.2.1 c1.2.2
 let c3:=iW 4 η 0 1 c2.2.1 c2.2.2
 let c4:=iW 4 η 0 1 c3.2.1 c3.2.2
 let c5:=mQ c4.2.1 c4.2.2
 (⟨c1.1.toNat,c2.1.toNat,c3.1,c4.1,c5.1⟩,c5.2)
theorem jf3 (l:Bs):match parse l with
  |some f=>frC l=(f,[],θ)
  |none=>(!(frC l).2.2&&(frC l).2.1.isEmpty)=θ:=by
 have bad:∀(f:Bs->gI->Bs×gI),kZ:=λ_=>trivial;match l with
 |[]=>simp only[parse,frC,jM];rw[EA,EA,Jh];rfl
 |[k]=>simp only[parse,frC,jM];rw[EA,EA,Jh];rfl
 |k::sh::r=>
  simp only[parse,frC,jM];have u:=Ev 4 η 0 1 r;unfold zw;cases e1:oQ 4 η 0 1 r with
  |none=>rw[e1]at u;simp only at u;rw[bz];simp only;rw[u];simp only;rw[EA,Jh];rfl
  |some p=>
   rw[e1]at u;simp only at u;rw[aw,u];simp only;have y:=Ev 4 η 0 1 p.2;cases e2:oQ 4 η 0 1 p.2 with
   |none=>rw[e2]at y;simp only at y;rw[bz];simp only;rw[y,Jh];rfl
   |some q=>
    rw[e2]at y;simp only at y;rw[aw,y];simp only;have z:=Qc q.2;cases e3:zu q.2 with
    |none=>rw[e3]at z;simp only at z;rw[bz];simp only;rw[z];rfl
    |some t=>rw[e3]at z;simp only at z;rw[aw,z];simp only;by_cases e:t.2=[];{rw[fo e,e]};rw[eD e];simpa using e
def frV (f:Fr):ah:=Θ #[σ Ξ f.kind,σ υ f.qb,σ υ f.id,σ υ f.n,sv f.load]
def vg (v:Fr->ah) (w:aa) (l:Bs) (e:bR) (w':aa):Prop:=(match jY l with
  |some f=>e=ψ (ο #[v f,χ η])
  |none=>∃f,e=ψ (ο #[v f,χ θ]))/\But (λ_=>je) w w'
theorem Vx (x i:dw) (t:i<4):(le4 x)[i]?=ζ (b8 (x/2^(8*i))):=by
 match i,t with
 |0,_|1,_|2,_|3,_=>simp[le4]
structure RdW (w wr:aa):Prop where
 r:wr.heap[w.heap.size]?=ζ (ω #[σ Ξ 0,σ υ 0,σ υ 0,σ υ 0,Γ ⟨#[]⟩] 133 (0,0))
 b:But (λ_=>je) w wr
section
variable {w wr w2:aa} {cb:dw} {l:Bs} {bad:gI}
theorem RdW.of (w:aa):RdW w (w.alloc (ω #[σ Ξ 0,σ υ 0,σ υ 0,σ υ 0,Γ ⟨#[]⟩] 133)):=⟨az _ _,il ((qy _ _).alloc (jg _) _)⟩
theorem RdW.lt (h:RdW w wr):w.heap.size<wr.heap.size:=(j5 h.r).1
theorem RdW.below (h:RdW w wr) (t:ay wr.heap.size wr w2):RdW w w2:=⟨(t.block _ h.lt).trans h.r,h.b.trans (il t)⟩
theorem But.top {w0:aa} (h:But B w0 w) {C:dw->Prop} (k:But C w w2) (z:∀b,C b->B b\/w0.heap.size<=b):But B w0 w2:=⟨xlt h.size k.size,λi u t=>(k.keep i (xll u h.size) λx=>(z i x).elim t λy=>by omega).trans (h.keep i u t),k.os.trans h.os,k.output.trans h.output⟩
theorem RdW.but (h:RdW w wr) (u:w.heap.size<cb) (t:But (· =cb) wr w2):RdW w w2:=⟨(t.keep _ h.lt (by omega)).trans h.r,h.b.top t λb e=>.inr (by omega)⟩
theorem RdW.cells (h:RdW w wr):wr.cell? ⟨w.heap.size,0,ε⟩=ζ (σ Ξ 0)/\wr.cell? ⟨w.heap.size,1,ε⟩=ζ (σ υ 0)/\wr.cell? ⟨w.heap.size,2,ε⟩=ζ (σ υ 0)/\wr.cell? ⟨w.heap.size,3,ε⟩=ζ (σ υ 0)/\wr.cell? ⟨w.heap.size,4,ε⟩=ζ (Γ ⟨#[]⟩)/\∀j,wr.frozen? ⟨w.heap.size,j,ε⟩=θ:=
 ⟨by simp[ae,h.r],by simp[ae,h.r],by simp[ae,h.r],by simp[ae,h.r],by simp[ae,h.r],λj=>by simp[al,h.r]⟩
theorem RdW.drewN (h:RdW w wr) (n:dw):RdW w (wr.drewN n):=⟨h.r,h.b.size,h.b.keep,h.b.os,h.b.output⟩
theorem But.fresh (h:But (· =w.heap.size) w wr):But (λ_=>je) w wr:=⟨h.size,λb t _=>h.keep b t (by omega),h.os,h.output⟩
theorem RdW.b' (h:RdW w wr):But (· =w.heap.size) w wr:=h.b.mono λ_ e=>e.elim
theorem jg9 (h:But (· =w.heap.size) w wr) (a b c d e:ah) (o:Obj):But (· =w.heap.size) w ((((((wr.setCell ⟨w.heap.size,0,ε⟩ a).setCell ⟨w.heap.size,1,ε⟩ b).setCell ⟨w.heap.size,2,ε⟩ c).setCell ⟨w.heap.size,3,ε⟩ d).setCell ⟨w.heap.size,4,ε⟩ e).alloc o):=(But.setCell (But.setCell (But.setCell (But.setCell (But.setCell h lc _ _) lc _ _) lc _ _) lc _ _) lc _ _).trans (il ((qy _ _).alloc (jg _) _))
theorem vg.no {v:Fr->ah} {f:Fr} (h:jY l=ε) (t:But (λ_=>je) w wr):vg v w l (ψ (ο #[v f,χ θ])) wr:=by unfold vg;rw[h];exact⟨⟨f,lc⟩,t⟩
theorem YS (u:s.size=n+4) (t:j<4):s.data.toList[n+j]?=ζ (s[n+j]'(by omega)):=by
 have h:n+j<s.size:=by omega
 rw[aA (by simpa using h)];simp[aC]
theorem VN:(b8 (C/2^(8*j))).toNat=C/2^(8*j)%256:=by simp[b8]
theorem jcd (z:s.size=n+4) (E:(s.extract 0 n).data.toList=s.data.toList.take n) (D:chk (s.extract 0 n).data.toList=C) (y:j<4) (h:¬((s[n+j]'(by omega)).toNat:gJ)=(C:gJ)/2^(8*j)%256):jY s.data.toList=ε:=by
 have G:s.data.toList.length=n+4:=by simpa using z
 unfold jY;rw[eD (by omega),G,show n+4-4=n by omega,<-E,D];rw[eD];intro e;have t:(s.data.toList.drop n)[j]?=(le4 C)[j]?:=by rw[e]
 rw[cg,YS z y,Vx _ _ y]at t;have u:=kM UInt8.toNat (xoi t);rw[VN]at u;apply h;rw[u];simp
theorem jcc (t:s.size=n+4) (u:∀i,i<j->s.data.toList[n+i]?=(le4 C)[i]?) {hj:n+j<s.size} (h:((s[n+j]'hj).toNat:gJ)=(C:gJ)/2^(8*j)%256):∀i,i<j+1->s.data.toList[n+i]?=(le4 C)[i]?:=λi y=>by
 rcases bI i j with h1|h1;{exact u i h1}
 .obtain rfl:i=j:=by omega
  rw[YS t (by omega),Vx _ _ (by omega)];congr 1;apply UInt8.toNat_inj.1;rw[VN];have e:((C:gJ)/2^(8*i)%256)=((C/2^(8*i)%256:dw):gJ):=by simp
  omega
theorem jhb (y:s.size=n+4) (u:(s.extract 0 n).data.toList=s.data.toList.take n) (t:chk (s.extract 0 n).data.toList=C) (z:∀i,i<4->s.data.toList[n+i]?=(le4 C)[i]?):jY s.data.toList=parse (s.extract 0 n).data.toList:=by
 have D:s.data.toList.length=n+4:=by simpa using y
 unfold jY;rw[eD (by omega),D,show n+4-4=n by omega,<-u,t,fo];apply List.ext_getElem?;intro i;rw[cg];rcases bI i 4 with h|h;{exact z i h};rw[aM (by omega),aM (by simpa[le4]using h)]
theorem jha {L0:Bs} {v:Fr} {r:Bs×gI} (y:jY l=parse L0) (t:frC L0=(v,r)) (u:But (λ_=>je) w wr):vg frV w l (ψ (ο #[frV v,χ (!r.2&&r.1.isEmpty)])) wr:=by
 have h:=jf3 L0;unfold vg;rw[y];cases hp:parse L0 with
 |none=>rw[hp,t]at h;exact⟨⟨v,by rw[h]⟩,u⟩
 |some f=>rw[hp,t]at h;simp only[Prod.mk.injEq]at h;obtain⟨rfl,rfl⟩:=h;exact⟨lc,u⟩
theorem Iw (s:bn) (hs:s.size<=1073741824):aD prog 101 #[Γ s] w (vg frV w s.data.toList):=by
 have K:=Hd (RdW.of w);by_cases h4:s.size<4
 .have HR:Hid (jY s.data.toList=ε):=Hd (by unfold jY;rw[fo (by simpa using h4)]);unfold vg;rw[HR.o];have g1:ν ((s.size:gJ)-4<0)=η:=xdt (by omega);have hz:(s.size:gJ)<4:=by omega
  go_enter func101,ntmps101;go_wp2;obtain⟨O,Q,R,T,U,N⟩:=K.cells;have V:=K.lt;refine cx (v:=ο #[frV ⟨0,0,0,0,[]⟩,χ θ]) (by simp[results,Tryz.results101,go_sem,frV,sv]) lc ⟨⟨_,lc⟩,?_⟩;exact K.b
 .obtain⟨n,hn⟩:∃n,s.size=n+4:=⟨s.size-4,by omega⟩
  have g1:ν ((s.size:gJ)-4<0)=θ:=xdf (by omega);have hz:(s.size:gJ)-4=n:=by omega
  have sj:n<=s.size:=by omega
  have HC:=Hd (Pp (s.extract 0 n).data.toList);have HL:Hid ((s.extract 0 n).data.toList=s.data.toList.take n/\s.data.toList.length=n+4):=Hd ⟨by rw[ext_list];rfl,by simpa using hn⟩;have I:=Hd hn;clear hn;go_enter func101,ntmps101;go_wp2_with (go_at_call 117;refine(VI (s.extract 0 n) (by simp;omega)).mono ?_;rintro e w2 ⟨rfl,rfl⟩;obtain⟨C,H⟩:∃C,chk (s.extract 0 n).data.toList=C:=⟨_,lc⟩;rw[H]at HC|-;replace H:=Hd H)
  go_loopw [19] (λi wr=>∃j:dw,j<=4/\i=σ υ j/\Hid (RdW w wr/\∀i,i<j->s.data.toList[n+i]?=(le4 C)[i]?)) (λi _=>4-(intOf i).toNat);case atStart=>exact⟨0,by omega,lc,Hd ⟨K.o,λi hi=>by omega⟩⟩
  case round=>
   obtain⟨j,hj,rfl,z⟩:=hrel;by_cases rE:j<4
   .have Ow:n+j<s.size:=by have:=I.o;omega
    have xS:((n:gJ)+j<s.size):=by omega
    have hi3:IntKind.i64.wrap ((n:gJ)+j)=n+j:=by rw[IntKind.wrap_i64];omega
    have rG:(0:gJ)<=n+j:=by omega
    obtain⟨O,Q,R,T,U,N⟩:=z.1.cells;have V:=z.1.lt;go_wp2;go_quiet (fail);go_wp2;{refine cx (v:=ο #[frV ⟨0,0,0,0,[]⟩,χ θ]) (by simp[results,Tryz.results101,go_sem,frV,sv,V,O,Q,R,T,U,N]) lc ?_;rename_i fG;refine vg.no (jcd I.o HL.1 H.out rE (by simpa using fG)) ?_;exact(But.setCell (But.setCell (But.setCell (But.setCell (But.setCell (z.1.drewN nq).b' lc _ _) lc _ _) lc _ _) lc _ _) lc _ _).fresh}
    .rename_i heq;go_roundw;case rel=>exact⟨j+1,by omega,by go_num,Hd ⟨z.1.drewN nq,jcc I.o z.2 (by simpa using heq)⟩⟩
     case measure=>simp[intOf];omega
   .obtain rfl:j=4:=by omega
    obtain⟨L0,Y⟩:∃L,(s.extract 0 n).data.toList=L:=⟨_,lc⟩
    have K0:Hid (mU (wr.alloc (ω #[Γ (s.extract 0 n),χ θ] 212)) wr.heap.size L0 θ/\RdW w (wr.alloc (ω #[Γ (s.extract 0 n),χ θ] 212))):=Hd ⟨by unfold mU;rw[az,qx Y],z.1.below ((qy _ _).alloc (jg _) _)⟩;have G:=z.1.lt;have E0:=Hd Y;obtain⟨c1,e1⟩:∃c,jM L0 θ=c:=⟨_,lc⟩
    obtain⟨c2,e2⟩:∃c,jM c1.2.1 c1.2.2=c:=⟨_,lc⟩
    obtain⟨D,e3⟩:∃c,iW 4 η 0 1 c2.2.1 c2.2.2=c:=⟨_,lc⟩
    obtain⟨E,e4⟩:∃c,iW 4 η 0 1 D.2.1 D.2.2=c:=⟨_,lc⟩
    obtain⟨y,e5⟩:∃c,mQ E.2.1 E.2.2=c:=⟨_,lc⟩
    obtain⟨ld,fK⟩:=qc y.1;obtain⟨sr,nH⟩:=qc y.2.1;have E1:=Hd e1;have E2:=Hd e2;have E3:=Hd e3;have E4:=Hd e4;have E5:=Hd e5;have E6:=Hd fK;have E7:=Hd nH;clear e1 e2 e3 e4 e5 Y fK nH;go_wp2_with (first
     |(go_at_call 127;refine(IL K0.1).mono ?_;rw[E1.o];rintro e w2 ⟨rfl,t,u⟩;have K1:=Hd (ac t (K0.2.but G u));clear t u)
     |(go_at_call 127;refine(IL K1.1).mono ?_;rw[E2.o];rintro e w3 ⟨rfl,t,u⟩;have K2:=Hd (ac t (K1.2.but G u));clear t u)
     |(go_at_call 128;refine(Es K2.1).mono ?_;rw[E3.o];rintro e w4 ⟨rfl,t,u⟩;have K3:=Hd (ac t (K2.2.but G u));clear t u)
     |(go_at_call 128;refine(Es K3.1).mono ?_;rw[E4.o];rintro e w5 ⟨rfl,t,u⟩;have K4:=Hd (ac t (K3.2.but G u));clear t u)
     |(go_at_call 129;refine(Bl K4.1).mono ?_;rw[E5.o,qx E6.o];rintro e w6 ⟨rfl,t,u⟩;have M:=Hd (ac t (K4.2.but G u));obtain⟨Kz,fw,_⟩:=t.cells E7.o;obtain⟨O,Q,R,T,U,N⟩:=M.2.cells;clear t u))
    have qZ:wrap64 (c2.1.toNat:gJ)=(c2.1.toNat:gJ):=by have:=xM c2.1;unfold wrap64;omega
    rw[qZ];have V:=M.2.lt;have clt:wr.heap.size<w6.heap.size:=(j5 M.1).1;have HV:Hid (frC L0=(⟨c1.1.toNat,c2.1.toNat,D.1,E.1,y.1⟩,y.2)):=Hd (by unfold frC;simp only[E1.o,E2.o,E3.o,E4.o,E5.o]);have HF:∀(b:gI) (w':aa),(!y.2.2&&y.2.1.isEmpty)=b->But (λ_=>je) w w'->vg frV w s.data.toList (ψ (ο #[Θ #[σ Ξ c1.1.toNat,σ υ c2.1.toNat,σ υ D.1,σ υ E.1,Γ ld],χ b])) w':=λb w' hb h=>by rw[<-hb];have:=jha (jhb I.o HL.1 H.out z.2) (E0.symm▸HV.o) h;unfold frV at this;rwa [qx E6.o]at this
    have HH:=Hd HF;have Z:=Hd M.2.b';clear HF;have UG:sr.toList.isEmpty=y.2.1.isEmpty:=by rw[aG,E7.o]
    cases hb5:y.2.2<;>cases gX:y.2.1.isEmpty;all_goals
     rw[hb5]at fw;rw[gX]at UG;go_region;go_wp2;refine cx (v:=ο #[Θ #[σ Ξ c1.1.toNat,σ υ c2.1.toNat,σ υ D.1,σ υ E.1,Γ ld],χ (!y.2.2&&y.2.1.isEmpty)]) (by rw[hb5,gX];simp[results,Tryz.results101,go_sem,V,O,Q,R,T,U,N,clt]) lc (HH.o _ _ lc (jg9 Z.o _ _ _ _ _ _).drew.fresh)
end
theorem PX:∃i,prog.info? 87=ζ i/\i.zero=ζ (Θ #[Γ ⟨#[]⟩,Γ ⟨#[]⟩,χ θ])/\i.size=3/\i.bytes=40:=by
 have h:(prog.info? 87).map (λi=>(i.zero,i.size,i.bytes))=ζ (ζ (Θ #[Γ ⟨#[]⟩,Γ ⟨#[]⟩,χ θ]),3,40):=by kernel_rfl
 obtain⟨i,y,t⟩:=aH.1 h;injection t with t u;injection u with u z;exact⟨i,y,t,u,z⟩
def AX (k v:bn) (g:gI):Chg:=⟨k.data.toList,v.data.toList,g⟩
def csL (L:KV) (cs:gF Chg) (k v:bn) (g:gI):gF Chg:=if rV L k.data.toList v.data.toList g=0 then cs++[AX k v g]else cs
structure MX (x n:dw) (pv cv:ah) (ld:bn) (m:Mv) (w:aa):Prop where
 b:w.heap[x]?=ζ (.cells (qw n pv cv ld m) 135 (0,0))
 r:sV w cv m.cs
section
variable {w w':aa} {cl db mb x n:dw} {L:KV} {pv cv:ah} {ld:bn} {m:Mv}
theorem kz {m:dw} {L:KV} {cur:iO ah} {ty:aT} (u:zk w m L) (t:w.heap[b]?=ζ (.cells cur ty (0,0))):b≠m:=λe=>by obtain⟨z,y,h,_⟩:=u;rw[e,h]at t;cases t
theorem MX.lt (h:MX x n pv cv ld m w):x<w.heap.size:=(j5 h.b).1
theorem MX.below (h:MX x n pv cv ld m w) (t:ay w.heap.size w w'):MX x n pv cv ld m w':=⟨(t.block _ h.lt).trans h.b,h.r.block λg u=>t.block g (jo.lt h.r u)⟩
theorem MX.but (h:MX x n pv cv ld m w) (y:zk w mb L) (t:But (· =mb) w w'):MX x n pv cv ld m w':=⟨(t.keep _ h.lt (kz y h.b)).trans h.b,h.r.block λg u=>t.keep g (jo.lt h.r u) (by
 obtain⟨c,z⟩:=jo.ty h.r u
 exact kz y z)⟩
theorem MX.cells (h:MX x n pv cv ld m w):w.cell? ⟨x,4,ε⟩=ζ cv/\w.cell? ⟨x,12,ε⟩=ζ (χ m.sealed)/\w.frozen? ⟨x,4,ε⟩=θ:=⟨by simp[ae,h.b,qw],by simp[ae,h.b,qw],by simp[al,h.b]⟩
def ChM (cb cl n db mb x:dw) (pv cv:ah) (ld:bn) (m:Mv) (L:KV) (k v:bn) (g:gI) (w:aa):Prop:=ChW cb cl n db mb (ζ ⟨x,0,ε⟩) L k v g w/\MX x n pv cv ld m w
theorem XI {W:aa} {v:bn} {B:Prop} (h:A/\B/\Hid (ChM W.heap.size cl n db mb x pv cv ld m L k v g w1/\ay W.heap.size W w1)) (y:k.size<=aL):
  aD prog 42 #[ξ (ζ ⟨db,0,ε⟩),Γ k] w1 λe w'=>(e=ψ (ο #[sv ((jh L k.data.toList).getD []),χ (jh L k.data.toList).isSome]))/\ChM W.heap.size cl n db mb x pv cv ld m L k v g w'/\ay W.heap.size W w':=
 (Rl h.2.2.out.1.1.m h.2.2.out.1.1.l k y).mono λe w' ⟨u,t⟩=>⟨u,⟨h.2.2.out.1.1.below t,h.2.2.out.1.2.below t⟩,h.2.2.out.2.trans (t.mono h.2.2.out.2.size)⟩
def ChB (mb x:dw) (cv:ah) (b:dw):Prop:=b=mb\/b=x\/cv.ownBlock=ζ b
def Ms (w:aa) (mb x n:dw) (pv cv:ah) (ld:bn) (m:Mv) (L':KV) (gD:gF Chg) (c:gJ) (e:bR) (w':aa):Prop:=
 e=ψ (σ υ c)/\zk w' mb L'/\(∃cv',MX x n pv cv' ld {m with cs:=gD} w'/\∀b,cv'.ownBlock=ζ b->cv.ownBlock=ζ b\/w.heap.size<=b)/\But (ChB mb x cv) w w'
theorem Ms.idle {c:gJ} (h:MX x n pv cv ld m w') (u:zk w' mb L) (t:ay w.heap.size w w'):Ms w mb x n pv cv ld m L m.cs c (ψ (σ υ c)) w':=⟨lc,u,⟨cv,h,λ_ h=>.inl h⟩,il t⟩
theorem qpx (k v:bn) (g:gI) (n:dw) (hn:n<4) (V:jN k.data.toList=η) (Y:q9 k.data.toList=n) (Z:k.size<=aL) (hL:L.length<=16777216) (H:vC w cl n db mb (ζ ⟨x,0,ε⟩) L) (K:MX x n pv cv ld m w) (I:m.sealed=η):
  aD prog 40 #[ξ (ζ ⟨cl,0,ε⟩),Θ #[Γ k,Γ v,χ g]] w (RZ (if 12<v.data.toList.length then 3 else 5) w):=by
 have pO:((n:gJ)<4):=by omega
 have Q:=Hd K;have O:=Hd I;obtain⟨y,z⟩:∃y:gJ,(if 12<v.data.toList.length then(3:gJ)else 5)=y:=⟨_,lc⟩
 rw[z];have u:=Hd z;clear K I z;go_enter func40,ntmps40;go_wp2_with (go_at_call 41;refine(IC _ _ V).mono ?_;rintro e w1 ⟨rfl,G⟩;rw[Y])
 obtain⟨D,E⟩:=ChW.of H G;clear G H;have R:=Hd E;have N:=Hd (ac D (Q.below E));obtain⟨c0,c1,c2,pd,pv',pm,pl⟩:=id D;clear E D pl;go_region_held3 (λw'=>w'.cell? ⟨cl,1+n*3+1,ε⟩=ζ (ξ (ζ ⟨db,0,ε⟩))/\w'.cell? ⟨w.heap.size,0,ε⟩=ζ (Γ k)/\Hid (ChM w.heap.size cl n db mb x pv cv ld m L k v g w'/\ay w.heap.size w w'))
  (first|exact⟨pd,c0,Hd ⟨⟨N.1.drew,N.2.below (bD (qy _ _))⟩,R.drew⟩⟩|exact⟨(t.1).1.d,(t.1).1.c0,t⟩)
  (first|(go_at_call 42;refine(XI (by assumption) Z).mono ?_;rintro e w2 ⟨rfl,M⟩;have t:=Hd M;clear M))
 obtain⟨e0,e1,e2,ed,ev,em,T⟩:=t.1.1;obtain⟨q1,q2,q3⟩:=t.1.2.cells;rw[O.o]at q2;clear T;by_cases ou:12<v.size
 .have HE:Hid (y=3):=Hd (u.symm.trans (fo (by simpa using ou)));have U:ν ((12:gJ)<v.size)=η:=by simp;omega
  go_wp2;go_ret;exact⟨by rw[HE.o];rfl,t.2⟩
 .have HE:Hid (y=5):=Hd (u.symm.trans (eD (by simpa using ou)));have U:ν ((12:gJ)<v.size)=θ:=by simp;omega
  go_wp2;go_ret;exact⟨by rw[HE.o];rfl,t.2⟩
end
def lY (n:dw) (k v:Bs):gI:=jN k&&q9 k==n&&ν (v.length<=12)
def Cm (n:dw):dw->Bs->Bs->gU (gF Chg×Bs)
 |0,_,l=>ζ ([],l)
 |k+1,last,l=>(zw l).bind λp=>if last.length<p.1 then ε else(zu p.2).bind λt=>(zu t.2).bind λv=>if lY n (last.take p.1++t.1) v.1&&aK last (last.take p.1++t.1)then(Cm n k (last.take p.1++t.1) v.2).map λr=>(⟨last.take p.1++t.1,v.1,θ⟩::r.1,r.2)else ε
def xB (n:dw):dw->Bs->gU (gF Chg×Bs)
 |0,l=>ζ ([],l)
 |_+1,[]=>ε
 |k+1,b::l=>if b.toNat<1||2<b.toNat then ε else(zu l).bind λt=>(if b.toNat==1 then zu t.2 else ζ ([],t.2)).bind λv=>if lY n t.1 v.1 then(xB n k v.2).map λr=>(⟨t.1,v.1,b.toNat==2⟩::r.1,r.2)else ε
def whole (out:gF Chg) (r:gF Chg×Bs):gU (gF Chg):=if r.2.isEmpty&&!(out++r.1).isEmpty then ζ (out++r.1)else ε
def unblock (n:dw) (l:Bs):gU (gF Chg):=(zw l).bind λc=>(Cm n c.1 [] c.2).bind (whole [])
def qD (n:dw) (l:Bs):gU (gF Chg):=(zw l).bind λc=>(xB n c.1 c.2).bind (whole [])
theorem GI (out:gF Chg) (c:Chg) (o:gU (gF Chg×Bs)):(o.map λr=>(c::r.1,r.2)).bind (whole out)=o.bind (whole (out++[c])):=by
 cases o with
 |none=>rfl
 |some r=>simp[whole]
theorem Mj (l:Bs) (k:dw):aK l (l.take k)=θ:=by
 induction l generalizing k with
 |nil=>cases k<;>rfl
 |cons a l ih=>
  cases k with
  |zero=>rfl
  |succ k=>simp[aK,ih]
theorem Mw (h:zu l=ε):mQ l θ=([],[],η):=by
 have t:=Qc l;rw[h]at t;simp only at t;refine Prod.ext ?_ t;unfold mQ takeC at t|-;split;{rfl}
 .rename_i y;rw[eD y]at t;simp only[Prod.mk.injEq]at t;show List.take _ _=[];have u:=Ev 4 η 0 1 l;cases hn:oQ 4 η 0 1 l with
  |none=>rw[hn]at u;simp only at u;rw[u];simp
  |some p=>rw[hn]at u;simp only at u;rw[u]at t;simp at t
theorem qyp:mQ [] η=([],[],η):=by refine Prod.ext ?_ Jh;unfold mQ takeC;rw[EA];split<;>simp
theorem CW (h:zu l=ζ p):mQ l θ=(p.1,p.2,θ):=by have t:=Qc l;rw[h]at t;exact t
theorem Vt (h:zw l=ε):(iW 4 η 0 1 l θ).2=([],η):=by have t:=Ev 4 η 0 1 l;unfold zw at h;rw[h]at t;exact t
theorem Gw {p:dw×Bs} (h:zw l=ζ p):iW 4 η 0 1 l θ=(p.1,p.2,θ):=by have t:=Ev 4 η 0 1 l;unfold zw at h;rw[h]at t;exact t
theorem WC (n:dw) (v:Bs):lY n [] v=θ:=rfl
def qR (n k:dw) (last l:Bs) (bad:gI) (out:gF Chg):gU (gF Chg):=if bad then ε else(Cm n k last l).bind (whole out)
theorem ED (l:Bs) (bad:gI):(mQ l bad).1.length<=l.length/\(mQ l bad).2.1.length<=l.length:=by have h:=Gx 4 η 0 1 l bad;unfold mQ takeC;split;{exact⟨xzl _,xzl _⟩};simp only[bG,bF];omega
theorem Vu (a m:dw) (b:UInt8) (l:Bs) (bad:gI):(iW 4 η a m (b::l) bad).2.1.length<=l.length:=by rw[iW];split;{exact xzl _};split;{exact jg _};exact Gx ..
theorem GA {k v:Bs} (h:lY n k v=η):k.length<=8:=by simp only[lY,jN,am,jC]at h;exact h.1.1.2.1
theorem qwq (n k:dw) (last l:Bs) (out:gF Chg):
  let c1:=iW 4 η 0 1 l θ
  let c2:=mQ c1.2.1 c1.2.2
  let u:=mQ c2.2.1 c2.2.2
  let key:=last.take c1.1++c2.1
  (last.length<c1.1->qR n (k+1) last l θ out=ε)/\((lY n key u.1&&aK last key)=θ->qR n (k+1) last l θ out=ε)/\
   (¬last.length<c1.1->(lY n key u.1&&aK last key)=η->qR n (k+1) last l θ out=qR n k key u.2.1 u.2.2 (out++[⟨key,u.1,θ⟩])/\u.2.1.length<l.length/\key.length<=8):=by
 simp only[qR,Cm,Bool.false_eq_true,if_false];cases h1:zw l with
 |none=>rw[Vt h1];refine⟨λ_=>lc,λ_=>lc,λ_ y=>?_⟩;rw[qyp,bO,Mj,cN]at y;cases y
 |some p=>
  have E:p.2.length<l.length:=by
   cases l with
   |nil=>simp[zw,oQ]at h1
   |cons b l=>have:=Vu 0 1 b l θ;rw[Gw h1]at this;exact Nat.lt_succ_of_le this
  have G:([]:Bs).length<l.length:=cj (xzl _) E;rw[Gw h1];simp only[aw];refine⟨λh=>by rw[fo h];rfl,?_⟩;by_cases eZ:last.length<p.1;{rw[fo eZ];exact⟨λ_=>lc,λh=>(h eZ).elim⟩}
  .rw[eD eZ];cases h2:zu p.2 with
   |none=>rw[Mw h2];refine⟨λ_=>lc,λ_ y=>?_⟩;simp only at y;rw[bO,Mj,cN]at y;cases y
   |some t=>
    rw[CW h2];simp only[aw];cases h3:zu t.2 with
    |none=>rw[Mw h3];exact⟨λ_=>lc,λ_ h=>⟨by simp,G,GA (by simp only[am]at h;exact h.1)⟩⟩
    |some v=>rw[CW h3];simp only[aw];refine⟨λh=>by rw[eD (by rw[h];decide)];rfl,λ_ h=>?_⟩;rw[fo h,GI];refine⟨by simp,?_,GA (by simp only[am]at h;exact h.1)⟩;have z:=(ED p.2 θ).2;have D:=(ED t.2 θ).2;rw[CW h2]at z;rw[CW h3]at D;simp only at z D|-;omega
section
variable {w:aa}
theorem Gd (n:dw) (k v:bn) (z:k.size<=aL):aD prog 140 #[σ υ n,Γ k,Γ v] w λe w'=>e=ψ (χ (lY n k.data.toList v.data.toList))/\ay w.heap.size w w':=by
 have y:v.data.toList.length=v.size:=by simp
 unfold lY;rw[y];clear y;cases iF:jN k.data.toList
 .have u:=Hd (Rj k w iF z);go_enter func140,ntmps140;go_wp2_with (go_at_call 41;refine u.mono ?_;rintro e w1 ⟨rfl,t⟩;have H1:=Hd t;clear t)
  go_ret;exact⟨lc,H1.o⟩
 .have u:=Hd (IC k w iF);obtain⟨m,D⟩:∃m,q9 k.data.toList=m:=⟨_,lc⟩
  rw[D]at u|-;go_enter func140,ntmps140;go_wp2_with (go_at_call 41;refine u.mono ?_;rintro e w1 ⟨rfl,t⟩;have H1:=Hd t;clear t)
  .rename_i h;go_ret;obtain rfl:m=n:=by omega
   exact⟨by simp;omega,H1.o⟩
  .rename_i h;go_ret;exact⟨by simp[show¬m=n by omega],H1.o⟩
end
def Bd (w:aa) (o:gU (gF Chg)) (e:bR) (w':aa):Prop:=(match o with
  |some cs=>∃v,e=ψ (ο #[v,χ η])/\GU w' v cs/\∀b,v.ownBlock=ζ b->w.heap.size<=b
  |none=>∃v,e=ψ (ο #[v,χ θ]))/\But (λ_=>je) w w'
structure UnW (w:aa) (cb:dw) (l:Bs) (bad:gI) (v:ah) (out:gF Chg) (wr:aa):Prop where
 c:mU wr cb l bad
 r:wr.ownsRow (w.heap.size+1) 87 3 v out.length (kg out)
 b:But (λ_=>je) w wr
section
variable {w wr w2:aa} {cb:dw} {l l2:Bs} {bad qU:gI} {v:ah} {out:gF Chg}
theorem UnW.cur (h:UnW w w.heap.size l bad v out wr) (y:mU w2 w.heap.size l2 qU) (t:But (· =w.heap.size) wr w2):UnW w w.heap.size l2 qU v out w2:=⟨y,qi h.r λg u=>t.keep g (h.r.lt g u).2 (by have:=(h.r.lt g u).1;omega),h.b.top t λb e=>.inr (by omega)⟩
theorem UnW.below (h:UnW w w.heap.size l bad v out wr) (t:ay wr.heap.size wr w2):UnW w w.heap.size l bad v out w2:=⟨(t.block _ (j5 h.c).1).trans h.c,qi h.r λg u=>t.block g (h.r.lt g u).2,h.b.trans (il t)⟩
theorem UnW.app {v':ah} (h:UnW w w.heap.size l bad v out wr) (c:Chg) (u:w1=wr.alloc o) (t:w1.grownBy w2 v.ownBlock) (D:w2.ownsRow (w.heap.size+1) 87 3 v' (out.length+1) (kg out++[sv c.k,sv c.v,χ c.g])):UnW w w.heap.size l bad v' (out++[c]) w2:=by subst u;have y:=(j5 h.c).1;refine⟨?_,?_,?_⟩;{exact(t.block _ (by simp;omega) λe=>by have:=(h.r.lt _ e.symm).1;omega).trans ((aF wr o y).trans h.c)};{rw[aj];simpa[kg]using D};refine⟨?_,λb z _=>?_,?_,?_⟩;{have u:=t.size;have E:=h.b.size;simp at u;omega};{exact(t.block b (by have:=h.b.size;simp;omega) λe=>by have:=(h.r.lt b e.symm).1;omega).trans ((aF wr o (by have:=h.b.size;omega)).trans (h.b.keep b z id))};{rw[t.os];exact h.b.os};rw[t.output];exact h.b.output
theorem UnW.fin (h:UnW w w.heap.size l bad v out wr):Bd w (if bad then ε else whole out ([],l)) (ψ (ο #[v,χ (!bad&&l.isEmpty&&ν (0<out.length))])) wr:=by
 unfold Bd whole;refine⟨?_,h.b⟩;cases bad
 .rw[eD (by decide)];cases hl:l.isEmpty;{simp only[hl];exact⟨v,lc⟩}
  .cases ho:out with
   |nil=>exact⟨v,lc⟩
   |cons c o=>simp only[hl,bO,List.isEmpty_cons,Bool.not_false,Bool.and_self,kT];refine⟨v,by simp,?_,λb u=>by have:=(h.r.lt b u).1;omega⟩;rw[<-ho];exact⟨h.r.1,h.r.2.imp id λ⟨g,t,cur,e,_,r⟩=>⟨g,t,cur,e,xzl _,r⟩⟩
 .exact⟨v,lc⟩
theorem Bd.no (t:But (λ_=>je) w wr):Bd w ε (ψ (ο #[v,χ θ])) wr:=⟨⟨v,lc⟩,t⟩
theorem F3 (w:aa) (a b c:ah) (ty:aT):∀(j:dw) (u:ah),[a,b,c][j]?=ζ u->(w.alloc (ω #[a,b,c] ty)).cell? ((⟨w.heap.size,0,ε⟩:Addr).add j)=ζ u:=λj u t=>by
 rw[Addr.add_lit,co];match j,t with
 |0,t=>simp at t;subst t;go_simp
 |1,t=>simp at t;subst t;go_simp
 |2,t=>simp at t;subst t;go_simp
theorem Wu (n:dw) (l:Bs) (P:dw->Bs->gU (gF Chg×Bs)):((zw l).bind λc=>(P c.1 c.2).bind (whole []))=if(iW 4 η 0 1 l θ).2.2 then ε else(P (iW 4 η 0 1 l θ).1 (iW 4 η 0 1 l θ).2.1).bind (whole []):=by
 cases h1:zw l with
 |none=>rw[Vt h1];rfl
 |some p=>rw[Gw h1];rfl
theorem VW {b t:bn} {l:Bs} {p:dw} (u:t.data.toList=l):(b.extract 0 p++t).data.toList=b.data.toList.take p++l:=by rw[bm,bZ,ext_list,u];rfl
theorem WK (k l:bn):(aK l.data.toList k.data.toList=η/\Op.bytesLess k.toList l.toList=θ/\(k.toList==l.toList)=θ)\/(aK l.data.toList k.data.toList=θ/\Op.bytesLess k.toList l.toList=η)\/(aK l.data.toList k.data.toList=θ/\Op.bytesLess k.toList l.toList=θ/\(k.toList==l.toList)=η):=by rw[Bj,aG,aG];rcases Jd k.data.toList l.data.toList with h|h|h;{exact .inr (.inl ⟨MI h,h⟩)};{rw[h];exact .inr (.inr ⟨EG _,EG _,beq_self_eq_true _⟩)};exact .inl ⟨h,MI h,Gg h⟩
structure UnR (w:aa) (n:dw) (s:bn) (k:dw) (last l:Bs) (bad:gI) (v:ah) (out:gF Chg) (wr:aa):Prop where
 u:UnW w w.heap.size l bad v out wr
 e:unblock n s.data.toList=qR n k last l bad out
 z:bad=θ->out.length+l.length<=s.size
 z2:out.length<=s.size
 y:last.length<=8
theorem q27 (n:dw) (s:bn) (hs:s.size<=268435456):aD prog 130 #[σ υ n,Γ s] w (Bd w (unblock n s.data.toList)):=by
 have HU:Hid (UnW w w.heap.size s.data.toList θ (Δ ε 0 0) [] (w.alloc (ω #[Γ s,χ θ] 212))):=Hd ⟨by unfold mU;rw[az,tX],aN _ _ _ _,il ((qy _ _).alloc (jg _) _)⟩;obtain⟨c0,V⟩:∃c,iW 4 η 0 1 s.data.toList θ=c:=⟨_,lc⟩
 have E0:=Hd V;have H0:Hid (unblock n s.data.toList=qR n c0.1 [] c0.2.1 c0.2.2 []):=Hd (by rw[<-V];exact Wu n _ (λk l=>Cm n k [] l));have HZ:Hid (c0.2.1.length<=s.size):=Hd (by rw[<-V];simpa using Gx 4 η 0 1 s.data.toList θ);have wS:c0.1<=268435456:=by have:=I7 4 η 0 1 s.data.toList θ;rw[V]at this;omega
 have HS:=Hd hs;obtain⟨ci,l1,l2,l3,l4⟩:=PX;have HI:=Hd (ac l1 (ac l2 (ac l3 l4)));clear V l1 l2 l3 l4 hs;go_enter func130,ntmps130;go_wp2_with (go_at_call 128;refine(Es HU.c).mono ?_;rw[E0.o];rintro e w2 ⟨rfl,t,D⟩;have K0:=Hd (HU.cur t D);clear t D)
 go_loopw [7,8,9] (λo la k wr=>∃(out:gF Chg) (sa:gU Addr) (cp:dw) (G:bn) (j:dw) (l:Bs) (bad:gI),o=.slice sa out.length cp/\la=Γ G/\k=σ υ j/\j<=268435456/\Hid (UnR w n s j G.data.toList l bad (.slice sa out.length cp) out wr)) (λ_ _ k _=>(intOf k).toNat);case atStart=>exact⟨[],ε,0,⟨#[]⟩,c0.1,c0.2.1,c0.2.2,lc,lc,lc,wS,Hd ⟨K0.o,H0.o,λ_=>by have:=HZ.o;simpa using this,xzl _,xzl _⟩⟩
 case round=>
  obtain⟨out,sa,cp,G,j,l,bad,rfl,rfl,rfl,Ot,E⟩:=hrel;obtain⟨sr,nH⟩:=qc l;obtain⟨Kz,fw,_⟩:=E.u.c.cells nH;have gX:=kM List.isEmpty nH;rw[<-aG]at gX;by_cases hx:j=0\/bad=η
  .have HF:Hid (Bd w (unblock n s.data.toList) (ψ (ο #[.slice sa out.length cp,χ (!bad&&l.isEmpty&&ν (0<out.length))])) wr):=Hd (by
    have:=E.u.fin;rw[E.e];unfold qR;cases bad;{rcases hx with rfl|h;{exact this};cases h}
    .exact this)
   clear nH;cases bad
   .obtain rfl:j=0:=hx.elim id λh=>by cases h
    cases hl:l.isEmpty;all_goals
     rw[hl]at gX HF;go_wp2;go_ret2;simpa using HF.o
   .by_cases hj:j=0;{subst hj;go_wp2;go_ret2;simpa using HF.o}
    .have Fg:((0:gJ)<j):=by omega
     go_wp2;go_ret2;simpa using HF.o
  .obtain⟨j,rfl⟩:∃q,j=q+1:=⟨j-1,by omega⟩
   obtain rfl:bad=θ:=by cases bad;rfl;exact gY (.inr lc) hx
   have Q:=qwq n j G.data.toList l out;obtain⟨c1,e1⟩:∃c,iW 4 η 0 1 l θ=c:=⟨_,lc⟩
   rw[e1]at Q;obtain⟨c2,e2⟩:∃c,mQ c1.2.1 c1.2.2=c:=⟨_,lc⟩
   simp only[e2]at Q;obtain⟨c3,e3⟩:∃c,mQ c2.2.1 c2.2.2=c:=⟨_,lc⟩
   simp only[e3]at Q;have Dj:=Gx 4 η 0 1 l θ;have nR:=ED c1.2.1 c1.2.2;rw[e1]at Dj;rw[e2]at nR;obtain⟨tb,ht⟩:=qc c2.1;obtain⟨vb,hv⟩:=qc c3.1;have uw:G.data.toList.length=G.size:=by simp
   have R:=VW (b:=G) (p:=c1.1) ht;rw[<-R,<-hv]at Q;have kG:(G.extract 0 c1.1++tb).size<=aL:=by rw[jl R,aj,bG];have:=E.y;have:=E.z lc;have:=HS.o;have:=nR.1;unfold aL;omega
   have E1:=Hd e1;have E2:=Hd e2;have E3:=Hd e3;have U:=Hd (ac ht hv);have O:=Hd Q;have T:=Hd kG;have htz:tb.size<=268435456:=by rw[jl ht];have:=E.z lc;have:=HS.o;have:=nR.1;omega
   have Uw:G.size<=8:=by have:=E.y;omega
   clear e1 e2 e3 Dj nR ht hv R kG Q nH gX uw;by_cases hp:G.size<c1.1
   .have Di:ν ((G.size:gJ)<c1.1)=η:=xdt (by omega);go_wp2_with (go_at_call 128;refine(Es E.u.c).mono ?_;rw[E1.o];rintro e w3 ⟨rfl,t,D⟩;have K1:=Hd (E.u.cur t D);clear t D)
    go_ret2;rw[E.e,O.1 (by simpa using hp)];exact .no K1.b
   .have Di:ν ((G.size:gJ)<c1.1)=θ:=xdf (by omega);have EY:((c1.1:gJ)<=G.size):=by omega
    have hp4:c1.1<=G.size:=by omega
    have hxz:(G.extract 0 c1.1).size=c1.1:=by simp;omega
    go_wp2_with (go_at_call 128;refine(Es E.u.c).mono ?_;rw[E1.o];rintro e w3 ⟨rfl,t,D⟩;have K1:=Hd (E.u.cur t D);clear t D)
    go_region_with (go_at_call 129;refine(Bl (K1.below (w2:=_) (by first|exact qy _ _|exact(qy _ _).drew)).c).mono ?_;rw[E2.o,qx U.1];rintro e w4 ⟨rfl,t,D⟩;have K:=Hd ((K1.below (by first|exact qy _ _|exact(qy _ _).drew)).cur t D);clear t D)
    obtain⟨H,R⟩:∃H,G.extract 0 c1.1++tb=H:=⟨_,lc⟩
    rw[R]at O T|-;obtain⟨fb,vI⟩:∃b,lY n H.data.toList vb.data.toList=b:=⟨_,lc⟩
    have Y:=WK H G;rw[vI]at O;have zB:=Hd vI;have K7:¬G.data.toList.length<c1.1:=by simpa using hp
    have SF:out.length<=268435456:=by have:=E.z2;have:=HS.o;omega
    have TN:=Hd K7;clear R vI K7;cases fb
    .have Z:Hid (unblock n s.data.toList=ε):=Hd (by rw[E.e];exact O.2.1 lc);clear Y;go_wp2_with (first
      |(go_at_call 129;refine(Bl K.c).mono ?_;rw[E3.o,qx U.2];rintro e w5 ⟨rfl,t,D⟩;have N:=Hd (K.cur t D);clear t D)
      |(go_at_call 140;refine(Gd n H vb T.o).mono ?_;rw[zB.o];rintro e w6 ⟨rfl,t⟩;have I:=Hd (N.below t);clear t))
     go_ret2;rw[Z.o];exact .no I.b
    .rcases Y with⟨M,g1,g2⟩|⟨M,g1⟩|⟨M,g1,g2⟩
     .have ng:=Hd (O.2.2 TN.o (by rw[M];rfl));clear M;go_wp2_with (first
       |(go_at_call 129;refine(Bl K.c).mono ?_;rw[E3.o,qx U.2];rintro e w5 ⟨rfl,t,D⟩;have N:=Hd (K.cur t D);clear t D)
       |(go_at_call 140;refine(Gd n H vb T.o).mono ?_;rw[zB.o];rintro e w6 ⟨rfl,t⟩;have I:=Hd (N.below t);clear t)
       |(at_builtin;(refine bE _ lc (.tmp 53) (.tmp 58) 130 lc (w.heap.size+1) 87 ci _ 3 40 underlying130 HI.1 HI.2.1 HI.2.2.1 HI.2.2.2 lc (by decide) (.slice sa out.length cp) out.length (kg out) lc (I.r.alloc _) ⟨w6.heap.size,0,ε⟩ 1 1 [Γ H,Γ vb,χ θ] lc lc (F3 w6 _ _ _ _) (by intro u hu;simp at hu;rcases hu with rfl|rfl|rfl<;>rfl) (by unfold aL;omega) (by omega) (by have:=(j5 I.c).1;simp;omega) ?_;intro v2 w7 fu gV _;obtain⟨jF,jI,iQ⟩:=jq fu;rw[iQ]at fu;have K5:=Hd (I.app ⟨H.data.toList,vb.data.toList,θ⟩ lc gV (by rw[tX,tX];exact fu));rw[iQ];clear fu gV iQ)))
      go_roundw;case rel=>exact⟨out++[⟨H.data.toList,vb.data.toList,θ⟩],jF,jI,H,j,c3.2.1,c3.2.2,by simp,lc,by go_num,by omega,Hd ⟨by simpa using K5.o,by rw[E.e];exact ng.1,λ_=>by have:=ng.2.1;have:=E.z lc;simp;omega,by have:=ng.2.1;have:=E.z lc;simp;omega,ng.2.2⟩⟩
      case measure=>simp[intOf]<;>omega
     .have Z:Hid (unblock n s.data.toList=ε):=Hd (by rw[E.e];exact O.2.1 (by rw[M];rfl));clear M;go_wp2_with (first
       |(go_at_call 129;refine(Bl K.c).mono ?_;rw[E3.o,qx U.2];rintro e w5 ⟨rfl,t,D⟩;have N:=Hd (K.cur t D);clear t D)
       |(go_at_call 140;refine(Gd n H vb T.o).mono ?_;rw[zB.o];rintro e w6 ⟨rfl,t⟩;have I:=Hd (N.below t);clear t))
      go_ret2;rw[Z.o];exact .no I.b
     .have Z:Hid (unblock n s.data.toList=ε):=Hd (by rw[E.e];exact O.2.1 (by rw[M];rfl));clear M;go_wp2_with (first
       |(go_at_call 129;refine(Bl K.c).mono ?_;rw[E3.o,qx U.2];rintro e w5 ⟨rfl,t,D⟩;have N:=Hd (K.cur t D);clear t D)
       |(go_at_call 140;refine(Gd n H vb T.o).mono ?_;rw[zB.o];rintro e w6 ⟨rfl,t⟩;have I:=Hd (N.below t);clear t))
      go_ret2;rw[Z.o];exact .no I.b
end
def pG (n k:dw) (l:Bs) (bad:gI) (out:gF Chg):gU (gF Chg):=if bad then ε else(xB n k l).bind (whole out)
def NI (b:UInt8) (c:Bs×gI):Bs×Bs×gI:=if b.toNat=1 then mQ c.1 c.2 else([],c)
theorem qw3 (n k:dw) (l:Bs) (out:gF Chg):
  let c1:=jM l θ
  let c2:=mQ c1.2.1 c1.2.2
  let u:=NI c1.1 c2.2
  (c1.1.toNat<1\/2<c1.1.toNat->pG n (k+1) l θ out=ε)/\(lY n c2.1 u.1=θ->pG n (k+1) l θ out=ε)/\
   (¬(c1.1.toNat<1\/2<c1.1.toNat)->lY n c2.1 u.1=η->pG n (k+1) l θ out=pG n k u.2.1 u.2.2 (out++[⟨c2.1,u.1,c1.1.toNat==2⟩])/\u.2.1.length<l.length):=by
 simp only[show pG n (k+1) l θ out=(xB n (k+1) l).bind (whole out)from lc];cases l with
 |nil=>exact⟨λ_=>lc,λ_=>lc,λh=>(h (.inl (by decide))).elim⟩
 |cons b l=>
  simp only[jM,xB];by_cases hb:b.toNat<1\/2<b.toNat;{rw[fo (by simpa using hb)];exact⟨λ_=>lc,λ_=>lc,λh=>(h hb).elim⟩}
  .rw[eD (by simpa using hb)];refine⟨λh=>(hb h).elim,?_⟩;cases h2:zu l with
   |none=>rw[Mw h2];refine⟨λ_=>lc,λ_ h=>?_⟩;rw[show lY n ([],[],η).1 _=θ from WC n _]at h;cases h
   |some t=>
    rw[CW h2];have y:=(ED l θ).2;rw[CW h2]at y;simp only[aw,NI]at y|-;by_cases h1:b.toNat=1
    .rw[fo h1,fo (by simpa using h1)];cases h3:zu t.2 with
     |none=>rw[Mw h3];exact⟨λ_=>lc,λ_ h=>⟨lc,by simp⟩⟩
     |some v=>have z:=(ED t.2 θ).2;rw[CW h3]at z|-;simp only[aw]at z|-;refine⟨λh=>by rw[eD (by rw[h];decide)];rfl,λ_ h=>?_⟩;rw[fo h,GI];exact⟨lc,by simp;omega⟩
    .rw[eD h1,eD (by simpa using h1)];simp only[aw];refine⟨λh=>by rw[eD (by rw[h];decide)];rfl,λ_ h=>?_⟩;rw[fo h,GI];exact⟨lc,by simp;omega⟩
structure UdR (w:aa) (n:dw) (s:bn) (k:dw) (l:Bs) (bad:gI) (v:ah) (out:gF Chg) (wr:aa):Prop where
 u:UnW w w.heap.size l bad v out wr
 e:qD n s.data.toList=pG n k l bad out
 z:bad=θ->out.length+l.length<=s.size
 z2:out.length<=s.size
section
variable {w wr w2:aa} {cb x:dw} {l l2:Bs} {bad qU:gI} {v:ah} {out:gF Chg}
theorem UnW.but (h:UnW w w.heap.size l bad v out wr) (t:But (· =x) wr w2) (z:w.heap.size<x) (y:v.ownBlock≠ζ x):UnW w w.heap.size l bad v out w2:=⟨(t.keep _ (j5 h.c).1 (by omega)).trans h.c,qi h.r λg u=>t.keep g (h.r.lt g u).2 (λe=>y (e▸u)),h.b.top t λb e=>.inr (by omega)⟩
def XB (x:dw) (k v:bn) (g:gI) (w:aa):Prop:=w.heap[x]?=ζ (ω #[Γ k,Γ v,χ g] 87 (0,0))
theorem XB.cells {k v:bn} {g:gI} (h:XB x k v g w):w.cell? ⟨x,0,ε⟩=ζ (Γ k)/\w.cell? ⟨x,1,ε⟩=ζ (Γ v)/\w.cell? ⟨x,2,ε⟩=ζ (χ g)/\w.frozen? ⟨x,1,ε⟩=θ:=by unfold XB at h;exact⟨by simp[ae,h],by simp[ae,h],by simp[ae,h],by simp[al,h]⟩
theorem XB.below {v:bn} (h:XB x k v g w) (t:ay w.heap.size w w2):XB x k v g w2:=(t.block _ (j5 h).1).trans h
theorem XB.set {v t:bn} (h:XB x k v g w):XB x k t g (w.setCell ⟨x,1,ε⟩ (Γ t)):=(xhs w x 1 _ _ (Γ t) h).trans lc
theorem UnW.xb (h:UnW w w.heap.size l bad v out wr) (t:∀g,v.ownBlock=ζ g->g<wr.heap.size):UnW w w.heap.size l bad v out (wr.alloc (ω #[Γ k,Γ ⟨#[]⟩,χ g] 87))/\XB wr.heap.size k ⟨#[]⟩ g (wr.alloc (ω #[Γ k,Γ ⟨#[]⟩,χ g] 87))/\w.heap.size<wr.heap.size/\v.ownBlock≠ζ wr.heap.size:=
 ⟨h.below ((qy _ _).alloc (jg _) _),az _ _,(j5 h.c).1,λe=>da _ (t _ e)⟩
theorem UnW.fill (h:UnW w w.heap.size l bad v out wr/\XB x k ⟨#[]⟩ g wr) (y:w.heap.size<x/\v.ownBlock≠ζ x) (z:mU w2 w.heap.size l2 qU) (t:But (· =w.heap.size) wr w2):(UnW w w.heap.size l2 qU v out (w2.setCell ⟨x,1,ε⟩ (Γ vb))/\XB x k vb g (w2.setCell ⟨x,1,ε⟩ (Γ vb)))/\XB x k ⟨#[]⟩ g w2:=by have u:XB x k ⟨#[]⟩ g w2:=(t.keep _ (j5 h.2).1 (by omega)).trans h.2;exact⟨⟨(h.1.cur z t).but (But.setCell (B:=(· =x)) (But.refl _ _) lc _ _) y.1 y.2,u.set⟩,u⟩
theorem q28 (n:dw) (s:bn) (hs:s.size<=268435456):aD prog 131 #[σ υ n,Γ s] w (Bd w (qD n s.data.toList)):=by
 have HU:Hid (UnW w w.heap.size s.data.toList θ (Δ ε 0 0) [] (w.alloc (ω #[Γ s,χ θ] 212))):=Hd ⟨by unfold mU;rw[az,tX],aN _ _ _ _,il ((qy _ _).alloc (jg _) _)⟩;obtain⟨c0,e0⟩:∃c,iW 4 η 0 1 s.data.toList θ=c:=⟨_,lc⟩
 have E0:=Hd e0;have H0:Hid (qD n s.data.toList=pG n c0.1 c0.2.1 c0.2.2 []):=Hd (by rw[<-e0];exact Wu n _ (λk l=>xB n k l));have HZ:Hid (c0.2.1.length<=s.size):=Hd (by rw[<-e0];simpa using Gx 4 η 0 1 s.data.toList θ);have wS:c0.1<=268435456:=by have:=I7 4 η 0 1 s.data.toList θ;rw[e0]at this;omega
 have HS:=Hd hs;obtain⟨ci,l1,l2,l3,l4⟩:=PX;have K:=Hd (ac l1 (ac l2 (ac l3 l4)));clear e0 l1 l2 l3 l4 hs;go_enter func131,ntmps131;go_wp2_with (go_at_call 128;refine(Es HU.c).mono ?_;rw[E0.o];rintro e w2 ⟨rfl,y,t⟩;have K0:=Hd (HU.cur y t);clear y t)
 go_loopw [7,8] (λo k wr=>∃(out:gF Chg) (sa:gU Addr) (cp:dw) (j:dw) (l:Bs) (bad:gI),o=.slice sa out.length cp/\k=σ υ j/\j<=268435456/\Hid (UdR w n s j l bad (.slice sa out.length cp) out wr)) (λ_ k _=>(intOf k).toNat);case atStart=>exact⟨[],ε,0,c0.1,c0.2.1,c0.2.2,lc,lc,wS,Hd ⟨K0.o,H0.o,λ_=>by have:=HZ.o;simpa using this,xzl _⟩⟩
 case round=>
  obtain⟨out,sa,cp,j,l,bad,rfl,rfl,Ot,D⟩:=hrel;obtain⟨sr,nH⟩:=qc l;obtain⟨Kz,fw,_⟩:=D.u.c.cells nH;have gX:=kM List.isEmpty nH;rw[<-aG]at gX;by_cases hx:j=0\/bad=η
  .have HF:Hid (Bd w (qD n s.data.toList) (ψ (ο #[.slice sa out.length cp,χ (!bad&&l.isEmpty&&ν (0<out.length))])) wr):=Hd (by
    have:=D.u.fin;rw[D.e];unfold pG;cases bad;{rcases hx with rfl|h;{exact this};cases h}
    .exact this)
   clear nH;cases bad
   .obtain rfl:j=0:=hx.elim id λh=>by cases h
    cases hl:l.isEmpty;all_goals
     rw[hl]at gX HF;go_wp2;go_ret2;simpa using HF.o
   .by_cases hj:j=0;{subst hj;go_wp2;go_ret2;simpa using HF.o}
    .have Fg:((0:gJ)<j):=by omega
     go_wp2;go_ret2;simpa using HF.o
  .obtain⟨j,rfl⟩:∃q,j=q+1:=⟨j-1,by omega⟩
   obtain rfl:bad=θ:=by cases bad;rfl;exact gY (.inr lc) hx
   have I:=qw3 n j l out;obtain⟨c1,e1⟩:∃c,jM l θ=c:=⟨_,lc⟩
   rw[e1]at I;obtain⟨c2,e2⟩:∃c,mQ c1.2.1 c1.2.2=c:=⟨_,lc⟩
   simp only[e2]at I;obtain⟨N,Q⟩:∃c,NI c1.1 c2.2=c:=⟨_,lc⟩
   simp only[Q]at I;have Dj:=WU l θ;have nR:=ED c1.2.1 c1.2.2;rw[e1]at Dj;rw[e2]at nR;obtain⟨E,hk⟩:=qc c2.1;obtain⟨vb,hv⟩:=qc N.1;rw[<-hk,<-hv]at I;have kG:E.size<=aL:=by rw[jl hk];have:=D.z lc;have:=HS.o;have:=nR.1;unfold aL;omega
   obtain⟨b,eU⟩:∃b,c1.1=b:=⟨_,lc⟩
   rw[eU]at I Q;obtain⟨Z,Y⟩:∃n,b.toNat=n:=⟨_,lc⟩
   rw[Y]at I;unfold NI at Q;rw[Y]at Q;have hb256:Z<256:=Y▸xM b;have E1:=Hd e1;have EB:=Hd (ac eU Y);have E2:=Hd e2;have E3:=Hd Q;have HT:=Hd (ac hk hv);have R:=Hd I;have HK:=Hd kG;have SF:out.length<=268435456:=by have:=D.z2;have:=HS.o;omega
   have T:=Hd (λg (hg:(Value.slice sa out.length cp).ownBlock=ζ g)=>(D.u.r.lt g hg).2);clear e1 e2 Q Dj nR hk hv kG I nH gX Kz eU Y;have U:=D.z;by_cases hr:Z=1\/Z=2
   .obtain⟨fb,vI⟩:∃b,lY n E.data.toList vb.data.toList=b:=⟨_,lc⟩
    rw[vI]at R;have zB:=Hd vI;have ng:Hid (if fb then qD n s.data.toList=pG n j N.2.1 N.2.2 (out++[⟨E.data.toList,vb.data.toList,Z==2⟩])/\N.2.1.length<l.length else qD n s.data.toList=ε):=Hd (by
     rw[D.e];cases fb;{exact R.2.1 lc}
     .exact R.2.2 (by omega) lc)
    clear vI U R;rcases hr with rfl|rfl;all_goals cases fb
    all_goals
     first
     |(have kN:vb=⟨#[]⟩:=by have y:=HT.2;have t:=E3.o;rw[eD (by decide)]at t;rw[<-t]at y;cases vb;simp only[ByteArray.mk.injEq];exact Array.toList_inj.1 y
       subst kN
       have E4:Hid (c2.2=N.2):=Hd (by have t:=E3.o;rw[eD (by decide)]at t;rw[<-t]))
     |have E4:Hid (mQ c2.2.1 c2.2.2=N):=Hd (by have t:=E3.o;rwa [fo lc]at t)
     go_wp2_with (first
      |(go_at_call 127;refine(IL D.u.c).mono ?_;rw[E1.o,EB.out.1,EB.out.2];rintro e w3 ⟨rfl,y,t⟩;have V:=Hd (D.u.cur y t);have Z1:=t.size;clear y t)
      |(go_at_call 129;refine(Bl V.c).mono ?_;rw[E2.o,qx HT.1];rintro e w4 ⟨rfl,y,t⟩;have M:=Hd (λgg=>(V.cur y t).xb (k:=E) (g:=gg) λg hg=>xll (T.o g hg) (xlt Z1 t.size));clear y t)
      |(go_at_call 129;refine(Bl (M.o _).1.c).mono ?_;rw[E4.o,qx HT.2];rintro e w5 ⟨rfl,y,t⟩;have K3:=Hd (UnW.fill (vb:=vb) ⟨(M.o _).1,(M.o _).2.1⟩ (M.o θ).2.2 y t);obtain⟨x0,x1,x2,x3⟩:=K3.2.cells;clear y t)
      |(go_at_call 140;refine(Gd n E vb HK.o).mono ?_;rw[zB.o];rintro e w6 ⟨rfl,y⟩;have G:=Hd (ac (K3.1.1.below y) (K3.1.2.below y));obtain⟨x0,x1,x2,x3⟩:=G.2.cells;clear y)
      |(go_at_call 140;refine(Gd n E ⟨#[]⟩ HK.o).mono ?_;rw[zB.o];rintro e w6 ⟨rfl,y⟩;have G:=Hd (ac ((M.o η).1.below y) ((M.o η).2.1.below y));obtain⟨x0,x1,x2,x3⟩:=G.2.cells;clear y)
      |(at_builtin;(refine bE _ lc (.tmp 58) (.tmp 60) 130 lc (w.heap.size+1) 87 ci _ 3 40 underlying130 K.1 K.2.1 K.2.2.1 K.2.2.2 lc (by decide) (.slice sa out.length cp) out.length (kg out) lc (G.1.r.alloc _) ⟨w6.heap.size,0,ε⟩ 1 1 [Γ E,Γ vb,χ θ] lc lc (F3 w6 _ _ _ _) (by intro u hu;simp at hu;rcases hu with rfl|rfl|rfl<;>rfl) (by unfold aL;omega) (by omega) (by have:=(j5 G.1.c).1;simp;omega) ?_;intro v2 w7 H gV _;obtain⟨jF,jI,O⟩:=jq H;rw[O]at H;have K5:=Hd (G.1.app ⟨E.data.toList,(vb:bn).data.toList,θ⟩ lc gV (by rw[tX,tX];exact H));rw[O];clear H gV O))
      |(at_builtin;(refine bE _ lc (.tmp 58) (.tmp 60) 130 lc (w.heap.size+1) 87 ci _ 3 40 underlying130 K.1 K.2.1 K.2.2.1 K.2.2.2 lc (by decide) (.slice sa out.length cp) out.length (kg out) lc (G.1.r.alloc _) ⟨w6.heap.size,0,ε⟩ 1 1 [Γ E,Γ ⟨#[]⟩,χ η] lc lc (F3 w6 _ _ _ _) (by intro u hu;simp at hu;rcases hu with rfl|rfl|rfl<;>rfl) (by unfold aL;omega) (by omega) (by have:=(j5 G.1.c).1;simp;omega) ?_;intro v2 w7 H gV _;obtain⟨jF,jI,O⟩:=jq H;rw[O]at H;have K5:=Hd (G.1.app ⟨E.data.toList,[],η⟩ lc gV (by rw[tX];exact H));rw[O];clear H gV O)))
     first
     |(go_ret2
       rw[show qD n s.data.toList=ε from ng.o]
       exact .no G.1.b)
     |(go_roundw
       case rel=>exact⟨out++[_],jF,jI,j,N.2.1,N.2.2,by simp,by go_num,by omega,Hd ⟨by first|simpa using K5.o|(rw[<-E4.o];simpa using K5.o),ng.1,λ_=>by have:=ng.2;have:=D.z lc;simp;omega,by have:=ng.2;have:=D.z lc;simp;omega⟩⟩
       case measure=>simp[intOf]<;>omega)
   .have pq:Hid (qD n s.data.toList=ε):=Hd (by rw[D.e];exact R.1 (by omega));have yY:((Z:gJ)==1)=θ:=by simp;omega
    clear U R;go_wp2_with (first
     |(go_at_call 127;refine(IL D.u.c).mono ?_;rw[E1.o,EB.out.1,EB.out.2];rintro e w3 ⟨rfl,y,t⟩;have V:=Hd (D.u.cur y t);have Z1:=t.size;clear y t)
     |(go_at_call 129;refine(Bl V.c).mono ?_;rw[E2.o,qx HT.1];rintro e w4 ⟨rfl,y,t⟩;have M:=Hd (λgg=>(V.cur y t).xb (k:=E) (g:=gg) λg hg=>xll (T.o g hg) (xlt Z1 t.size));clear y t))
    all_goals first
     |(exfalso;omega)
     |(go_ret2
       rw[pq.o]
       exact .no (M.o _).1.b)
end
def doL (L:KV) (c:Chg):KV:=if c.g then lI L c.k else nN L c.k c.v
theorem jbd (k v:Bs) (L:KV):(ins k v L).length=L.length+1:=by
 induction L with
 |nil=>rfl
 |cons p L ih=>rw[ins];split<;>simp[ih]
theorem jal (L:KV) (c:Chg):(doL L c).length<=L.length+1:=by unfold doL lI nN;split;{exact Nat.le_succ_of_le (bQ _ _)};rw[jbd];exact Nat.succ_le_succ (bQ _ _)
theorem Np (h:zu l=ζ p):p.2.length<=l.length:=by have:=(ED l θ).2;rwa [CW h]at this
theorem QM {p:dw×Bs} (h:zw l=ζ p):p.2.length<l.length:=by
 cases l with
 |nil=>simp[zw,oQ]at h
 |cons b l=>have:=Vu 0 1 b l θ;rw[Gw h]at this;exact Nat.lt_succ_of_le this
theorem VJ (n:dw):∀(k:dw) (last l:Bs) (r:gF Chg×Bs),Cm n k last l=ζ r->(∀c∈r.1,lY n c.k c.v=η)/\r.1.length+r.2.length<=l.length
 |0,last,l,r,h=>by cases h;exact⟨by simp,by simp⟩
 |k+1,last,l,r,h=>by rw[Cm]at h;obtain⟨p,z,h⟩:=aq.1 h;split at h;{cases h};obtain⟨t,D,h⟩:=aq.1 h;obtain⟨v,E,h⟩:=aq.1 h;split at h;{rename_i u;obtain⟨q,G,rfl⟩:=aH.1 h;obtain⟨y,H⟩:=VJ n k _ _ q G;simp only[am]at u;have:=QM z;have:=Np D;have:=Np E;exact⟨λc hc=>by rcases dc.1 hc with rfl|hc;exact u.1;exact y c hc,by simp;omega⟩};cases h
theorem VF (n:dw):∀(k:dw) (l:Bs) (r:gF Chg×Bs),xB n k l=ζ r->(∀c∈r.1,lY n c.k c.v=η)/\r.1.length+r.2.length<=l.length
 |0,l,r,h=>by rw[xB]at h;cases h;exact⟨by simp,by simp⟩
 |k+1,[],r,h=>by simp[xB]at h
 |k+1,b::l,r,h=>by
  rw[xB]at h;split at h;{cases h}
  .obtain⟨t,z,h⟩:=aq.1 h;obtain⟨v,u,h⟩:=aq.1 h;have H:v.2.length<=t.2.length:=by split at u;{exact Np u};cases u;exact jg _
   split at h;{rename_i E;obtain⟨q,D,rfl⟩:=aH.1 h;obtain⟨y,G⟩:=VF n k _ q D;have:=Np z;exact⟨λc hc=>by rcases dc.1 hc with rfl|hc;exact E;exact y c hc,by simp;omega⟩};cases h
def yC (kind n:dw) (l:Bs):gU (gF Chg):=if kind=2 then unblock n l else qD n l
theorem Qg {kind:dw} {cs:gF Chg} (h:yC kind n l=ζ cs):(∀c∈cs,lY n c.k c.v=η)/\cs.length<=l.length:=by
 have key:∀o:gU (gF Chg×Bs),(∀r,o=ζ r->(∀c∈r.1,lY n c.k c.v=η)/\r.1.length+r.2.length<=l.length)->o.bind (whole [])=ζ cs->(∀c∈cs,lY n c.k c.v=η)/\cs.length<=l.length:=λo E h=>by obtain⟨r,y,t⟩:=aq.1 h;unfold whole at t;split at t;{cases t;obtain⟨u,z⟩:=E r y;exact⟨by simpa using u,by simp;omega⟩};cases t
 unfold yC unblock qD at h;split at h;all_goals
  obtain⟨p,y,t⟩:=aq.1 h;have G:=QM y;refine key _ (λr D=>?_) t
 .obtain⟨u,z⟩:=VJ n _ _ _ r D;exact⟨u,by omega⟩
 .obtain⟨u,z⟩:=VF n _ _ r D;exact⟨u,by omega⟩
section
variable {w w2:aa} {sb db mb id next:dw} {done:gI} {kv:KV}
theorem jO.lt (h:jO w sb db mb id next done kv):sb<w.heap.size/\db<w.heap.size/\mb<w.heap.size:=⟨(j5 h.s).1,(j5 h.d).1,h.m.lt⟩
theorem jO.idle (h:jO w sb db mb id next done kv) (t:But (λ_=>je) w w2):jO w2 sb db mb id next done kv:=h.block λb u=>t.keep b (by have:=h.lt;omega) λx=>x
theorem jO.but {L:KV} (h:jO w sb db mb id next done kv) (t:But (· =mb) w w2) (u:zk w2 mb L):jO w2 sb db mb id next done L:=⟨(t.keep _ h.lt.1 (kz h.m h.s)).trans h.s,(t.keep _ h.lt.2.1 (kz h.m h.d)).trans h.d,u⟩
theorem jO.cells (h:jO w sb db mb id next done kv):w.cell? ⟨sb,0,ε⟩=ζ (σ υ id)/\w.cell? ⟨sb,1,ε⟩=ζ (σ υ next)/\w.cell? ⟨sb,2,ε⟩=ζ (ξ (ζ ⟨db,0,ε⟩))/\w.cell? ⟨sb,3,ε⟩=ζ (χ done)/\∀j,w.frozen? ⟨sb,j,ε⟩=θ:=
 ⟨by simp[ae,h.s],by simp[ae,h.s],by simp[ae,h.s],by simp[ae,h.s],λj=>by simp[al,h.s]⟩
theorem jO.ne (h:jO w sb db mb id next done kv):sb≠db:=λe=>by have t:=h.s;rw[e,h.d]at t;have u:=xoi t;injection u with _ y;exact gY y (by decide)
theorem jfu (t:w.cell? ⟨db,0,ε⟩=ζ (.map (ζ mb))) (y:zk w mb kv) (z:kv.length<1073741823) (k v:bn) (g:gI) (u:k.size<=aL):
  aD prog 69 #[ξ (ζ ⟨db,0,ε⟩),Θ #[Γ k,Γ v,χ g]] w (Px w mb (doL kv ⟨k.data.toList,v.data.toList,g⟩)):=by
 cases g;{exact IQ t y z k v u};exact PD t y k v u
end
def qV (kd sh:dw) (ld:Bs) (kv:KV):gI×KV×gI:=if kd=4 then(ld.isEmpty,kv,ld.isEmpty)else match yC kd sh ld with
 |none=>(θ,kv,θ)
 |some cs=>(η,cs.foldl doL kv,θ)
structure TkW (w:aa) (sb db mb id next:dw) (kv:KV) (v:ah) (cs:gF Chg) (j:dw) (wr:aa):Prop where
 s:jO wr sb db mb id next θ ((cs.take j).foldl doL kv)
 r:GU wr v cs
 b:But (· =mb) w wr
def Jf (w:aa) (sb db mb id next:dw) (r:gI×KV×gI) (e:bR) (w':aa):Prop:=e=ψ (χ r.1)/\jO w' sb db mb id next r.2.2 r.2.1/\But (λb=>b=sb\/b=mb) w w'
theorem Jp:∀(L:gF Chg) (k:dw) (c:Chg),L[k]?=ζ c->(kg L)[k*3]?=ζ (sv c.k)/\(kg L)[k*3+1]?=ζ (sv c.v)/\(kg L)[k*3+2]?=ζ (χ c.g)
 |[],k,c,h=>by simp at h
 |a::L,0,c,h=>by simp at h;subst h;exact⟨lc,lc,lc⟩
 |a::L,k+1,c,h=>by show(sv a.k::sv a.v::Value.bool a.g::kg L)[(k+1)*3]?=_/\(sv a.k::sv a.v::Value.bool a.g::kg L)[(k+1)*3+1]?=_/\(sv a.k::sv a.v::Value.bool a.g::kg L)[(k+1)*3+2]?=_;rw[show(k+1)*3=k*3+1+1+1 by omega];simpa using Jp L k c (by simpa using h)
section
variable {w wr w2:aa} {sb db mb id next:dw} {kv:KV} {v:ah} {cs:gF Chg} {j:dw}
theorem WB (cs:gF Chg) (kv:KV):(cs.foldl doL kv).length<=kv.length+cs.length:=by
 induction cs generalizing kv with
 |nil=>simp
 |cons c cs ih=>have t:=ih (doL kv c);have u:=jal kv c;simp only[List.foldl_cons,bw];omega
theorem TkW.below (h:TkW w sb db mb id next kv v cs j wr) (t:ay wr.heap.size wr w2):TkW w sb db mb id next kv v cs j w2:=⟨h.s.idle (il t),h.r.block λg u=>t.block g (aR h.r g u).2,h.b.trans (il t)⟩
theorem TkW.succ {c:Chg} (h:TkW w sb db mb id next kv v cs j wr) (z:cs[j]?=ζ c) (t:But (· =mb) wr w2) (E:zk w2 mb (doL ((cs.take j).foldl doL kv) c)):TkW w sb db mb id next kv v cs (j+1) w2:=by
 obtain⟨D,rfl⟩:=ai.1 z;have e:(cs.take (j+1)).foldl doL kv=doL ((cs.take j).foldl doL kv) cs[j]:=by rw[List.take_succ_eq_append_getElem D,List.foldl_append];rfl
 refine⟨by rw[e];exact h.s.but t E,h.r.block λg u=>t.keep g (aR h.r g u).2 ?_,h.b.trans t⟩;obtain⟨cur,y⟩:=xh h.r u;exact kz h.s.m y
theorem TkW.cells {c:Chg} {sa:gU Addr} {n cp:dw} (h:TkW w sb db mb id next kv (.slice sa n cp) cs j wr) (E:cs[j]?=ζ c):n=cs.length/\∃g,sa=ζ ⟨g,0,ε⟩/\wr.cell? ⟨g,j*3,ε⟩=ζ (sv c.k)/\wr.cell? ⟨g,j*3+1,ε⟩=ζ (sv c.v)/\wr.cell? ⟨g,j*3+2,ε⟩=ζ (χ c.g):=by obtain⟨T,_⟩:=ai.1 E;have t:=h.r;unfold GU at t;rcases t.2 with⟨G,U⟩|⟨g,H,cur,G,_⟩;{omega};injection G with I K M;subst I K M;obtain⟨O,Q,R⟩:=Jp cs j c E;have d:=λi u N=>t.cells (g:=g) lc i u N;have y:=d _ _ O;have z:=d _ _ Q;have D:=d _ _ R;rw[Addr.add_lit,co]at y z D;exact⟨lc,g,lc,y,z,D⟩
theorem jO.fin {done:gI} (h:jO w sb db mb id next done kv) (b:gI):jO (w.setCell ⟨sb,3,ε⟩ (χ b)) sb db mb id next b kv/\But (λq=>q=sb\/q=mb) w (w.setCell ⟨sb,3,ε⟩ (χ b)):=by refine⟨⟨(xhs w sb 3 _ _ (χ b) h.s).trans lc,(xho w _ _ _ h.ne.symm).trans h.d,h.m.block (xho w _ _ _ λe=>kz h.m h.s e.symm)⟩,But.setCell (But.refl _ _) (.inl lc) _ _⟩
theorem jih (h:jO w sb db mb id next θ kv) (kd sh fi fn:dw) (ld:bn) (yR:kd=2\/kd=3\/kd=4) (K:ld.size<=268435456) (kF:kv.length<=268435456):
  aD prog 103 #[ξ (ζ ⟨sb,0,ε⟩),Θ #[σ Ξ kd,σ υ sh,σ υ fi,σ υ fn,Γ ld]] w (Jf w sb db mb id next (qV kd sh ld.data.toList kv)):=by
 by_cases h4:kd=4
 .subst h4;have gX:ld.toList.isEmpty=ld.data.toList.isEmpty:=by rw[aG]
  obtain⟨a0,a1,a2,a3,af⟩:=h.cells;have eZ:=h.lt.1;unfold Jf qV;rw[fo lc];have Y:=Hd (λb=>h.fin b);clear h;cases he:ld.data.toList.isEmpty;all_goals
   rw[he]at gX;go_enter func103,ntmps103;go_wp2;go_ret;exact⟨lc,(Y.o _).1.idle (il ((qy _ _).alloc (jg _) _)),(Y.o _).2.trans (il ((qy _ _).alloc (jg _) _))⟩
 .have T:=Hd h;obtain⟨f,y⟩:∃f,yC kd sh ld.data.toList=f:=⟨_,lc⟩
  have Q:∀w1:aa,aD prog (if kd=2 then 130 else 131) #[σ υ sh,Γ ld] w1 (Bd w1 f):=λw1=>by rw[<-y];unfold yC;split;{exact q27 sh ld K};exact q28 sh ld K
  have U:∀cs,f=ζ cs->(∀c∈cs,lY sh c.k c.v=η)/\cs.length<=268435456:=λcs e=>by obtain⟨a1,a2⟩:=Qg (y.trans e);exact⟨a1,xlt a2 (by simpa using K)⟩
  have O:=Hd U;unfold Jf qV;rw[eD h4,y];have H:=Hd Q;clear h y Q U;rcases yR with rfl|rfl|rfl
  rotate_right
  .exact gY lc h4
  all_goals
   first|rw[fo lc]at H|rw[eD (by decide)]at H
   cases f with
   |none=>
    go_enter func103,ntmps103;go_wp2_with ((first|go_at_call 130|go_at_call 131);refine(H.o _).mono ?_;rintro e w1 ⟨⟨v,rfl⟩,u⟩;have I:=Hd (T.idle (But.trans (il ((qy _ _).alloc (jg _) _)) u));have B1:=Hd u;clear u)
    go_ret;exact⟨lc,I.o,(il ((qy _ _).alloc (jg _) _)).trans (B1.mono λ_ x=>x.elim)⟩
   |some cs=>
    go_enter func103,ntmps103;go_wp2_with ((first|go_at_call 130|go_at_call 131);refine(H.o _).mono ?_;rintro e w1 ⟨⟨v,rfl,G,_⟩,u⟩;obtain⟨sa,cp,hv⟩:=jq G;rw[hv]at G|-;have I:Hid (TkW w sb db mb id next kv (.slice sa cs.length cp) cs 0 w1):=Hd ⟨T.idle (But.trans (il ((qy _ _).alloc (jg _) _)) u),G,(il ((qy _ _).alloc (jg _) _)).trans (u.mono λ_ x=>x.elim)⟩;clear u G hv)
    go_loopw [46] (λi wr=>∃j:dw,j<=cs.length/\i=σ υ j/\Hid (TkW w sb db mb id next kv (.slice sa cs.length cp) cs j wr)) (λi _=>cs.length-(intOf i).toNat);case atStart=>exact⟨0,xzl _,lc,I⟩
    case round=>
     obtain⟨j,hj,rfl,z⟩:=hrel;have mG:cs.length<=268435456:=(O.o cs lc).2;by_cases iR:j<cs.length
     .obtain⟨c,D⟩:∃c,cs[j]?=ζ c:=⟨_,aA iR⟩
      obtain⟨_,g,rfl,d1,d2,d3⟩:=z.cells D;obtain⟨t,E⟩:=qc c.k;obtain⟨vb,N⟩:=qc c.v;rw[qx E]at d1;rw[qx N]at d2;have V:=Hd (z.below ((qy wr.heap.size wr).alloc (jg _) (ω #[Γ t,Γ vb,χ c.g] 87)));have R:∀w1,ay (wr.alloc (ω #[Γ t,Γ vb,χ c.g] 87)).heap.size (wr.alloc (ω #[Γ t,Γ vb,χ c.g] 87)) w1->aD prog 69 #[ξ (ζ ⟨db,0,ε⟩),Θ #[Γ t,Γ vb,χ c.g]] w1 λe w'=>e=ψ (ο #[])/\TkW w sb db mb id next kv (Δ (ζ ⟨g,0,ε⟩) cs.length cp) cs (j+1) w':=λw1 hb=>by
       have M:=V.below hb;have y:=WB (cs.take j) kv;rw[bG]at y;have hkf:=GA ((O.o cs lc).1 c (aB D));refine(jfu (by simp[ae,M.s.d]) M.s.m (by omega) t vb c.g (by rw[jl E];unfold aL;omega)).mono λe w' ⟨e1,e2,e3⟩=>⟨e1,M.succ D e3 ?_⟩
       rw[E,N]at e2;exact e2
      have KO:=Hd R;obtain⟨_,_,b2,_,_⟩:=V.s.cells;clear R D E N;go_wp2;have x0:(wr.alloc (ω #[Γ t,Γ vb,χ c.g] 87)).cell? ⟨wr.heap.size,0,ε⟩=ζ (Γ t):=by go_simp
      have x1:(wr.alloc (ω #[Γ t,Γ vb,χ c.g] 87)).cell? ⟨wr.heap.size,1,ε⟩=ζ (Γ vb):=by go_simp
      have x2:(wr.alloc (ω #[Γ t,Γ vb,χ c.g] 87)).cell? ⟨wr.heap.size,2,ε⟩=ζ (χ c.g):=by go_simp
      obtain⟨wa,Z⟩:∃wa,wr.alloc (ω #[Γ t,Γ vb,χ c.g] 87)=wa:=⟨_,lc⟩
      rw[Z]at KO b2 x0 x1 x2|-;clear Z d1 d2 d3;go_region_with (go_at_call 69;refine(KO.o _ (by first|exact qy _ _|exact(qy _ _).drew)).mono ?_;rintro e w2 ⟨rfl,h2⟩;have H2:=Hd h2;clear h2)
      all_goals
       go_wp2;go_roundw;case rel=>exact⟨j+1,by omega,by go_num,H2⟩
       case measure=>simp[intOf]<;>omega
     .obtain rfl:j=cs.length:=by omega
      have HE:Hid (jO wr sb db mb id next θ (cs.foldl doL kv)):=Hd (by have:=z.s;rwa [List.take_length]at this);go_wp2;go_ret;exact⟨lc,HE.o,z.b.mono λ_ x=>.inr x⟩
end
end
section
def Bg:Bs->KV->Bs
 |_,[]=>[]
 |last,p::r=>x9 last p.1 p.2++Bg p.1 r
def Bf:gF Chg->Bs
 |[]=>[]
 |c::r=>jw c++Bf r
theorem Nl:∀(l:KV) (last s:Bs) (n:dw),∃j,j<=l.length/\rX last l s n=(s++Bg last (l.take j),n+j)/\(n=0->l≠[]->1<=j)/\(s.length<=39->(n=0->s=[])->last.length<=8->(∀p∈l,p.1.length<=8/\p.2.length<=12)->(s++Bg last (l.take j)).length<=39)
 |[],last,s,n=>⟨0,jg _,by simp[rX,Bg],λ_ h=>gY lc h,λh _ _ _=>by simpa[Bg]using h⟩
 |p::r,last,s,n=>by rw[rX];by_cases h:0<n/\40<1+s.length+(x9 last p.1 p.2).length;{rw[fo h];exact⟨0,xzl _,by simp[Bg],λu=>by omega,λh _ _ _=>by simpa[Bg]using h⟩};rw[eD h];obtain⟨j,E,G,N,H⟩:=Nl r p.1 (s++x9 last p.1 p.2) (n+1);refine⟨j+1,by simpa using E,?_,λ_ _=>by omega,λM z D t=>?_⟩;{rw[G,aE,Bg,aZ];simp;omega};rw[aE,Bg,<-aZ];obtain⟨y,K⟩:=t p (.head _);have O:=QY last p.1 p.2 D y K;refine H ?_ (λh=>by omega) y λx I=>t x (.tail _ I);rw[aj];by_cases u:0<n;{have:=λx=>h ⟨u,x⟩;omega};rw[z (by omega)];simp;omega
theorem Nk:∀(l:gF Chg) (s:Bs) (n:dw),∃j,j<=l.length/\rY l s n=(s++Bf (l.take j),n+j)/\(n=0->l≠[]->1<=j)/\(s.length<=39->(n=0->s=[])->(∀p∈l,p.k.length<=8/\p.v.length<=12)->(s++Bf (l.take j)).length<=39)
 |[],s,n=>⟨0,jg _,by simp[rY,Bf],λ_ h=>gY lc h,λh _ _=>by simpa[Bf]using h⟩
 |p::r,s,n=>by rw[rY];by_cases h:0<n/\40<1+s.length+(jw p).length;{rw[fo h];exact⟨0,xzl _,by simp[Bf],λu=>by omega,λh _ _=>by simpa[Bf]using h⟩};rw[eD h];obtain⟨j,z,D,M,E⟩:=Nk r (s++jw p) (n+1);refine⟨j+1,by simpa using z,?_,λ_ _=>by omega,λK y t=>?_⟩;{rw[D,aE,Bf,aZ];simp;omega};rw[aE,Bf,<-aZ];obtain⟨H,I⟩:=t p (.head _);have N:=QW p H I;refine E ?_ (λh=>by omega) λx G=>t x (.tail _ G);rw[aj];by_cases u:0<n;{have:=λx=>h ⟨u,x⟩;omega};rw[y (by omega)];simp;omega
theorem q5j {k v:Bs} (h:lY n k v=η):k.length<=8/\v.length<=12:=by refine⟨GA h,?_⟩;unfold lY at h;simp only[am,jC]at h;exact h.2
end
namespace Ph
open Go.Conc Go.ConcN Go.RowKit Go.Maps Go.Conc.Lib Go Sim
theorem jl5 (y:dw->ah):lay 41 y=#[y 0,y 1,y 2,y 3,y 4,y 5,y 6,y 7,y 8,y 9,y 10,y 11,y 12,y 13,y 14,y 15,y 16,y 17,y 18,y 19,y 20,y 21,y 22,y 23,y 24,y 25,y 26,y 27,y 28,y 29,y 30,y 31,y 32,y 33,y 34,y 35,y 36,y 37,y 38,y 39,y 40]:=rfl
theorem jl6 (y:dw->ah):lay 42 y=#[y 0,y 1,y 2,y 3,y 4,y 5,y 6,y 7,y 8,y 9,y 10,y 11,y 12,y 13,y 14,y 15,y 16,y 17,y 18,y 19,y 20,y 21,y 22,y 23,y 24,y 25,y 26,y 27,y 28,y 29,y 30,y 31,y 32,y 33,y 34,y 35,y 36,y 37,y 38,y 39,y 40,y 41]:=rfl
def frB (kd sh id n:dw) (ld:bn):bn:=⟨(Fr.bytes ⟨kd,sh,id,n,ld.data.toList⟩).toArray⟩
def frX (kd sh id n:dw) (ld:bn):bn:=(⟨#[b8 kd,b8 sh]⟩:bn)++⟨(yj id).toArray⟩++⟨(yj n).toArray⟩++⟨(zo ld.data.toList).toArray⟩
theorem Wz (kd sh id n:dw) (ld:bn):(frX kd sh id n ld).data.toList=Fr.body ⟨kd,sh,id,n,ld.data.toList⟩:=by simp[frX,Fr.body]
theorem XJ (kd sh id n:dw) (ld:bn):frX kd sh id n ld++(⟨(le4 (chk (frX kd sh id n ld).data.toList)).toArray⟩:bn)=frB kd sh id n ld:=by
 have h:(frX kd sh id n ld++(⟨(le4 (chk (frX kd sh id n ld).data.toList)).toArray⟩:bn)).data.toList=(frB kd sh id n ld).data.toList:=by simp only[bm,bZ,Wz,frB,Fr.bytes,List.toList_toArray]
 have t:∀a b:bn,a.data.toList=b.data.toList->a=b:=λa b e=>by cases a;cases b;simp only[ByteArray.mk.injEq];exact Array.toList_inj.1 e
 exact t _ _ h
theorem Bu (h:n<9223372036854775808):(yj n).length<=9:=vo 8 n (by omega)
theorem Wy {kd sh id:dw} {ld:bn} (t:id<9223372036854775808) (u:n<9223372036854775808) (E:ld.size<=1048576):(frX kd sh id n ld).size<=2097152:=by
 have y:=Bu t;have z:=Bu u;have D:=Bu (n:=ld.data.toList.length) (by simp;omega);have e:(frX kd sh id n ld).size=(frX kd sh id n ld).data.toList.length:=by simp
 rw[e,Wz];simp only[Fr.body,aj,bw,bN,zo];have:ld.data.toList.length=ld.size:=by simp
 omega
theorem WL (w:aa):(convert 139 9 (Δ (ζ ⟨w.heap.size,0,ε⟩) 4 4)).run prog (w.alloc (ω #[σ Ξ ((C:gJ)%256),σ Ξ ((C:gJ)/256%256),σ Ξ ((C:gJ)/65536%256),σ Ξ ((C:gJ)/16777216%256)] 5))=.ok (Γ ⟨#[b8 C,b8 (C/256),b8 (C/65536),b8 (C/16777216)]⟩) (w.alloc (ω #[σ Ξ ((C:gJ)%256),σ Ξ ((C:gJ)/256%256),σ Ξ ((C:gJ)/65536%256),σ Ξ ((C:gJ)/16777216%256)] 5)):=
 jj9 _ _ ((C:gJ)%256) ((C:gJ)/256%256) ((C:gJ)/65536%256) ((C:gJ)/16777216%256) _ _ _ _ (by simp[b8]) (by simp[b8]) (by simp[b8]) (by simp[b8]) (by go_simp) (by go_simp) (by go_simp) (by go_simp)
theorem Wm (kd sh id n:dw) (ld:bn) (O:kd<256) (K:sh<256) (t:id<9223372036854775808) (G:n<9223372036854775808) (D:ld.size<=1048576):
  aD prog 75 #[Θ #[σ Ξ kd,σ υ sh,σ υ id,σ υ n,Γ ld]] w λe w'=>e=ψ (Γ (frB kd sh id n ld))/\ay w.heap.size w w':=by
 have z:=Hd (Wy (kd:=kd) (sh:=sh) t G D);have H:=Hd (XJ kd sh id n ld);have H1:=Hd (ac O (ac K (ac t (ac G D))));have M:(zo ld.data.toList).length<=1048585:=by
  have T:=Bu (n:=ld.data.toList.length) (by simp;omega);have:ld.data.toList.length=ld.size:=by simp
  simp only[zo,aj];omega
 have Q:=Hd M;clear O K t G D M;go_enter func75,ntmps75;go_wp2;change cJ _ (aP 1 pb1 η) _ _ _;refine jm4 (bx:=w.heap.size) (kd:=kd) (sh:=sh) (id:=id) (n:=n) (ld:=ld) (s1:=⟨(yj id).toArray⟩) (s2:=⟨(yj n).toArray⟩) (s3:=⟨(zo ld.data.toList).toArray⟩) lc lc lc (by go_simp) (by go_simp) (by go_simp) (by go_simp) (by go_simp) H1.1 H1.2.1 lc (by simpa[aQ]using Bu H1.2.2.1) (by simpa[aQ]using Bu H1.2.2.2.1) (by simpa[aQ]using Q.o) (λW=>Cy id H1.2.2.1) (λW=>Cy n H1.2.2.2.1) (λW=>YH ld (by have:=H1.2.2.2.2;omega)) ?_;intro y w1 _ u I;rw[jl5];replace u:y 3=Γ (frX kd sh id n ld):=u;rw[u];have N:=Hd (((qy w.heap.size w).alloc (jg _) _).trans (I.mono (by simp)));clear I u;obtain⟨X,E⟩:∃X,frX kd sh id n ld=X:=⟨_,lc⟩
 rw[E]at H z;rw[E];clear E;have R:=Hd (Pp X.data.toList);go_wp2_with (go_at_call 117;refine(VI X (by have:=z.o;omega)).mono ?_;rintro e w2 ⟨rfl,rfl⟩;generalize chk X.data.toList=C at *; have V:=WL (C:=C) w2;have U:=z.o)
 go_ret;exact⟨by rw[<-H.o];rfl,N.trans ((qy _ _).alloc N.size _)⟩
theorem Qa (h:C<2^32) (d:dw) (t:0<d):wrap64 ((C:gJ)/(d:gJ))=(C:gJ)/(d:gJ):=by
 have e:(C:gJ)/(d:gJ)=((C/d:dw):gJ):=by rw[Int.natCast_ediv]
 have u:C/d<2^32:=cj (Nat.div_le_self _ _) h;rw[e];generalize C/d=q at*;unfold wrap64;omega
theorem Qq (kd sh id n:dw) (ld:bn) (Q:kd<256) (M:sh<256) (t:id<9223372036854775808) (H:n<9223372036854775808) (E:ld.size<=1048576):
  aD prog 100 #[Θ #[σ υ kd,σ υ sh,σ υ id,σ υ n,Γ ld]] w λe w'=>e=ψ (Γ (frB kd sh id n ld))/\ay w.heap.size w w':=by
 have D:=Hd (Wy (kd:=kd) (sh:=sh) t H E);have I:=Hd (XJ kd sh id n ld);have H1:=Hd (ac Q (ac M (ac t (ac H E))));have N:(zo ld.data.toList).length<=1048585:=by
  have T:=Bu (n:=ld.data.toList.length) (by simp;omega);have:ld.data.toList.length=ld.size:=by simp
  simp only[zo,aj];omega
 have R:=Hd N;clear Q M t H E N;go_enter func100,ntmps100;go_wp2;change cJ _ (aP 1 db1 η) _ _ _;refine jkb (bx:=w.heap.size) (kd:=kd) (sh:=sh) (id:=id) (n:=n) (ld:=ld) (s1:=⟨(yj id).toArray⟩) (s2:=⟨(yj n).toArray⟩) (s3:=⟨(zo ld.data.toList).toArray⟩) lc lc lc (by go_simp) (by go_simp) (by go_simp) (by go_simp) (by go_simp) H1.1 H1.2.1 lc (by simpa[aQ]using Bu H1.2.2.1) (by simpa[aQ]using Bu H1.2.2.2.1) (by simpa[aQ]using R.o) (λW=>Gh id W H1.2.2.1) (λW=>Gh n W H1.2.2.2.1) (λW=>IX ld (by have:=H1.2.2.2.2;omega)) ?_;intro y w1 _ u K;rw[jl6];replace u:y 3=Γ (frX kd sh id n ld):=u;rw[u];have O:=Hd (((qy w.heap.size w).alloc (jg _) _).trans (K.mono (by simp)));clear K u;obtain⟨X,G⟩:∃X,frX kd sh id n ld=X:=⟨_,lc⟩
 rw[G]at I D;rw[G];clear G;have z:=Hd (Pp X.data.toList);go_wp2_with (go_at_call 126;refine(q74 X (by have:=D.o;omega)).mono ?_;rintro e w2 ⟨rfl,rfl⟩;generalize chk X.data.toList=C at *; have Z:=WL (C:=C) w2;have U:=D.o;have V:wrap64 ((C:gJ)/256)=(C:gJ)/256:=Qa z.o 256 (by decide);have Y:wrap64 ((C:gJ)/65536)=(C:gJ)/65536:=Qa z.o 65536 (by decide);have v3:wrap64 ((C:gJ)/16777216)=(C:gJ)/16777216:=Qa z.o 16777216 (by decide))
 go_ret;exact⟨by rw[<-I.o];rfl,O.trans ((qy _ _).alloc O.size _)⟩
def waits (ops:iO Oper) (m:dw):gF gI->dw->gF gI
 |S,0=>S
 |S,j+1=>waits ops m (if S.getD j θ then(match ops[j]? with
  |some o=>S.mapIdx λi b=>b||o.after.toList.any λe=>e.on==i&&cB .any e
  |none=>S)else S) j
def Ee (ops:iO Oper) (n:dw):gI:=
 (ν (0<ops.size))&&((aV ops.size).all λj=>match ops[j]? with
  |some o=>o.guard.isNone&&(match o.dst with|some d=>ν (d<n)&&ν (j+1<ops.size)|none=>ν (j+1=ops.size))&&(o.after.all λe=>ν (e.on<j))&&((aV ops.size).all λi=>i==j||(match ops[i]? with|some p=>!(p.dst==o.dst)|none=>η))
  |none=>θ)&&((waits ops (ops.size-1) ((aV ops.size).map λi=>i+1==ops.size) ops.size).all id)
section
variable {P:Program} {ops:iO Oper} {n:dw} {x0:dw->ah} {KN:dw->ah->aa->Prop} {turn:dw} {J:gI->aa->Prop}
def Ir (ops:iO Oper) (listed:iO gI):Prop:= ∀(j:dw) o,ops[j]?=ζ o->listed.getD j θ=η->∀e∈o.after,cB .any e=η->listed.getD e.on θ=η
theorem Mt (ops:iO Oper) (m:dw) {listed:iO gI} (y:Ir ops listed):∀(k:dw) (S:gF gI),(∀i,S.getD i θ=η->listed.getD i θ=η)->∀i,(waits ops m S k).getD i θ=η->listed.getD i θ=η
 |0,S,h=>h
 |k+1,S,h=>by
  unfold waits;refine Mt ops m y k _ ?_;intro i t;split at t
  .rename_i D;have G:=h k D;split at t
   .rename_i o E;rw[au,List.getElem?_mapIdx]at t;cases hb:S[i]? with
    |none=>rw[hb]at t;cases t
    |some b=>rw[hb]at t;simp only[bP,bH,Bool.or_eq_true,List.any_eq_true]at t;rcases t with t|⟨e,z,u⟩;{exact h i (by rw[au,hb];exact t)};simp only[am,kw]at u;rw[<-u.1];exact y k o E G e (by simpa using z) u.2
   .exact h i t
  .exact h i t
theorem Wq (h:Ee ops n=η) {o:Oper} (z:ops[j]?=ζ o):o.guard=ε/\(∀e∈o.after,e.on<j)/\(∀i p,ops[i]?=ζ p->i≠j->p.dst≠o.dst)/\((∃d,o.dst=ζ d/\d<n/\j+1<ops.size)\/(o.dst=ε/\j+1=ops.size)):=by
 unfold Ee at h;simp only[am]at h;have h:=h.1.2;rw[bA]at h;have M:j<ops.size:=(j5 z).1;have:=h j (cQ.2 M);rw[z]at this;simp only[am,Option.isNone_iff_eq_none]at this;obtain⟨⟨⟨G,t⟩,H⟩,y⟩:=this;refine⟨G,λe I=>jb ((Array.all_eq_true_iff_forall_mem.1 H) e I),λi p D E u=>?_,?_⟩;{rw[bA]at y;have K:=(j5 D).1;have:=y i (cQ.2 K);rw[D]at this;simp[E,u]at this}
 .cases u:o.dst with
  |none=>rw[u]at t;exact .inr ⟨lc,jb t⟩
  |some d=>rw[u]at t;simp only[am]at t;exact .inl ⟨d,lc,jb t.1,jb t.2⟩
structure RS (ops:iO Oper) (n:dw) (x0:dw->ah) (turn:dw) (J:gI->aa->Prop) (KN:dw->ah->aa->Prop) (Q:Exit->Act->aa->Prop) (listed:iO gI) (a:Act) (w:aa):Prop where
 size:listed.size=ops.size
 shut:Ir ops listed
 go:(listed.getD (ops.size-1) η=θ/\J (listed.getD turn θ) w/\∃x,a=⟨lay n x,[]⟩/\(∀s,(∀(j:dw) o,ops[j]?=ζ o->o.dst≠ζ s)->x s=x0 s)/\∀(j:dw) o d,listed.getD j θ=η->ops[j]?=ζ o->o.dst=ζ d->KN j (x d) w)\/(listed.getD (ops.size-1) θ=η/\Q .normal a w)
theorem Yv {id:dw} {Q:Exit->Act->aa->Prop} (hm:P.follows .mixedOrders=η) (O:Ee ops n=η) (ha:∃x,a=⟨lay n x,[]⟩/\∀s,x s=x0 s) (hw:J θ w.drew)
  (step:∀(j:dw) o d x w (b:gI),(j=turn->b=θ)->ops[j]?=ζ o->o.dst=ζ d->(∀s,(∀(j:dw) o,ops[j]?=ζ o->o.dst≠ζ s)->x s=x0 s)->(∀(i:dw) p e,ops[i]?=ζ p->p.dst=ζ e->(∃ed∈o.after,ed.on=i/\cB .any ed=η)->KN i (x e) w)->J b w->
   o.wp P ⟨lay n x,[]⟩ w (λV w'=>∃v,V=⟨lay n (upd x d v),[]⟩/\KN j v w'/\J (b||j==turn) w'/\∀i u,i≠j->KN i u w->KN i u w') Q)
  (last:∀(m:dw) o x w,m+1=ops.size->ops[m]?=ζ o->(∀s,(∀(j:dw) o,ops[j]?=ζ o->o.dst≠ζ s)->x s=x0 s)->(∀(j:dw) o d,ops[j]?=ζ o->o.dst=ζ d->KN j (x d) w)->J (ν (turn+1<ops.size)) w->o.wp P ⟨lay n x,[]⟩ w (λV w'=>Q .normal V w') Q):
  (aP id ops η).wp P Q a w:=by
 refine wp_region_any hm ?_;have jR:0<ops.size:=by unfold Ee at O;simp only[am,jC]at O;exact O.1.1
 have Z:((waits ops (ops.size-1) ((aV ops.size).map λi=>i+1==ops.size) ops.size).all (λb=>b))=η:=by unfold Ee at O;simp only[am]at O;exact O.2
 have Oc:∀(k:dw) (S:gF gI),(waits ops (ops.size-1) S k).length=S.length:=by
  intro k;induction k with
  |zero=>intro S;rfl
  |succ k ih=>intro S;unfold waits;rw[ih];split;{split;{simp};rfl};rfl
 -- if ε is ready,all are done
 have Je:∀{listed:iO gI},listed.size=ops.size->bg .any ops listed=[]->∀j,j<ops.size->listed.getD j θ=η:=by
  intro listed hs U j;induction j using Nat.strongRecOn with
  |_ j ih=>
   intro I;cases K:listed.getD j θ with
   |true=>rfl
   |false=>
    exfalso;obtain⟨o,y⟩:∃o,ops[j]?=ζ o:=⟨_,Array.getElem?_eq_getElem I⟩
    have D:j<listed.size:=by omega
    have:j∈bg .any ops listed:=de.2 ⟨by simp[D]at K|-;exact K,o,y,λe E _=>by
     have:=(Wq O y).2.1 e E
     exact ih e.on this (by omega)⟩
    rw[U]at this;cases this
 have main:∀fuel listed a w,left ops.size listed<=fuel->RS ops n x0 turn J KN Q listed a w->wpAny P .any ops Q fuel listed a w:=by
  intro fuel;have fin:∀listed a w,RS ops n x0 turn J KN Q listed a w->bg .any ops listed=[]->Q .normal a w:=by
   rintro listed a w ⟨G,h2,H⟩ U;rcases H with⟨H,_⟩|⟨_,H⟩
   .have:=Je G U (ops.size-1) (by omega);have D:ops.size-1<listed.size:=by omega
    simp[D]at this H;rw[this]at H;cases H
   .exact H
  induction fuel with
  |zero=>
   intro listed a w hl K;have U:bg .any ops listed=[]:=by
    cases hq:bg .any ops listed with
    |nil=>rfl
    |cons j r=>
     exfalso;have I:j∈bg .any ops listed:=by rw[hq];exact .head _
     obtain⟨G,o,y,_⟩:=de.1 I;have:=Qh (j5 y).1 G;omega
   exact⟨U,fin listed a w K U⟩
  |succ fuel ih=>
   intro listed a w hl K;refine⟨fin listed a w K,λj I=>?_⟩;obtain⟨G,o,y,H⟩:=de.1 I;obtain⟨hg,ji,zH,Ll⟩:=Wq O y;obtain⟨fC,jE,hgo⟩:=K;have Fe:j<ops.size:=(j5 y).1
   -- the list is shut behind it,too
   have wZ:Ir ops (listed.setIfInBounds j η):=by
    intro i p z t e E Dq;by_cases e1:i=j;{subst e1;rw[y]at z;cases z;have D:=ji e E;rw[aW θ (by omega)];exact H e E Dq}
    .rw[aW θ (Ne.symm e1)]at t;have h4:=jE i p z t e E Dq;by_cases M:e.on=j
     .rw[M];have:j<listed.size:=by omega
      simp[this]
     .rw[aW θ (Ne.symm M)];exact h4
   -- were the last one done,all would be
   have Lc:listed.getD (ops.size-1) θ≠η:=λhT=>by
    have N:=Mt ops (ops.size-1) jE ops.size ((aV ops.size).map λi=>i+1==ops.size) (λi t=>by
     rw[au,cE]at t;by_cases xS:i<ops.size;{rw[List.getElem?_range xS]at t;simp only[bP,bH,kw]at t;rw[show i=ops.size-1 by omega];exact hT}
     .rw[aM (by simp;omega)]at t;cases t) j (by
     rw[bA]at Z;have hlen:j<(waits ops (ops.size-1) ((aV ops.size).map λi=>i+1==ops.size) ops.size).length:=by rw[Oc];simp;exact Fe
     rw[au,aA hlen]
     exact Z _ (bp hlen))
    have D:j<listed.size:=by omega
    simp[D]at N G;rw[N]at G;cases G
   obtain⟨EZ,hR,x,rfl,Y,jH⟩:_:=hgo.resolve_right λh=>Lc h.1;unfold wpOp;rw[y];simp only[Region.wanted,hg,kT];rcases Ll with⟨d,R,nI,BL⟩|⟨R,BL⟩
   .refine .inl (Oper.wp_mono ?_ (step j o d x w (listed.getD turn θ) (λe=>?_) y R Y (λi p e z E ⟨ed,SY,h5,h6⟩=>jH i p e (by rw[<-h5];exact H ed SY h6) z E) hR));rotate_left
    .rw[<-e];have D:j<listed.size:=by omega
     simp[D]at G|-;exact G
    rintro V w' ⟨v,rfl,K,T,hk⟩;have T:J ((listed.setIfInBounds j η).getD turn θ) w':=by
     by_cases e:j=turn
     .subst e;have D:j<listed.size:=by omega
      simp[D]at T|-;exact T
     .rw[aW θ e];have M:(j==turn)=θ:=by simpa using e
      rw[M,Bool.or_false]at T;exact T
    refine ih _ _ _ (by have:=MC Fe fC G;omega) ⟨by simpa using fC,wZ,.inl ⟨by rw[aW η (by omega)];exact EZ,T,_,lc,λs hs=>?_,λi p e t z E=>?_⟩⟩;{unfold upd;rw[eD λe=>hs j o y (by rw[R,e])];exact Y s hs};by_cases e1:i=j;{subst e1;rw[y]at z;cases z;rw[R]at E;cases E;unfold upd;rw[fo lc];exact K};have fG:e≠d:=λM=>zH i p z e1 (by rw[E,R,M]);unfold upd;rw[eD fG];rw[aW θ (Ne.symm e1)]at t;exact hk i _ e1 (jH i p e t z E)
   .have N:∀i,i<ops.size-1->listed.getD i θ=η:=by
     intro i t;have N:=Mt ops (ops.size-1) wZ ops.size ((aV ops.size).map λi=>i+1==ops.size) (λi t=>by
      rw[au,cE]at t;by_cases xS:i<ops.size
      .rw[List.getElem?_range xS]at t;simp only[bP,bH,kw]at t;rw[show i=j by omega];have:j<listed.size:=by omega
       simp[this]
      .rw[aM (by simp;omega)]at t;cases t) i (by
      rw[bA]at Z;have hlen:i<(waits ops (ops.size-1) ((aV ops.size).map λi=>i+1==ops.size) ops.size).length:=by rw[Oc];simp;omega
      rw[au,aA hlen]
      exact Z _ (bp hlen))
     rw[aW θ (by omega)]at N;exact N
    refine .inl (Oper.wp_mono ?_ (last j o x w BL y Y (λi p d z qG=>jH i p d (N i ?_) z qG) (by
     have:listed.getD turn θ=ν (turn+1<ops.size):=by
      by_cases e:turn+1<ops.size;{rw[N turn (by omega)];simp[e]}
      .by_cases M:turn=ops.size-1
       .rw[M];have D:ops.size-1<listed.size:=by omega
        simp[D]at EZ|-;rw[EZ];simp;omega
       .simp[e,show¬turn<listed.size by omega]
     rw[<-this];exact hR)))
    .intro V w' hq;refine ih _ _ _ (by have:=MC Fe fC G;omega) ⟨by simpa using fC,wZ,.inr ⟨?_,hq⟩⟩;rw[show ops.size-1=j by omega];have:j<listed.size:=by omega
     simp[this]
    .have t:=(j5 z).1;rcases bI i (ops.size-1)with h|h;{exact h}
     .exfalso;have:i=j:=by omega
      subst this;rw[y]at z;cases z;rw[R]at qG;cases qG
 obtain⟨x,rfl,Y⟩:=ha;have h0f:J ((cH ops.size θ).getD turn θ) w.drew:=by
  have:(cH ops.size θ).getD turn θ=θ:=by by_cases h:turn<ops.size<;>simp[h]
  rw[this];exact hw
 refine main _ _ _ _ (xlt (List.countP_le_length) (by simp)) ⟨by simp,λj o y I=>?_,.inl ⟨?_,h0f,x,lc,λs _=>Y s,λj o d I y R=>?_⟩⟩;{have:j<ops.size:=(j5 y).1;simp[this]at I}
 .have:ops.size-1<ops.size:=by omega
  simp[this]
 .have:j<ops.size:=(j5 y).1;simp[this]at I
variable {e:cK->ah} {o:Oper} {p q:cK} {v:ah} {g f k:dw} {w:aa}
theorem run_move (h:o.op=.move p) (t:e p=v):(bh e o).run prog w=.ok (.value v) w:=by unfold bh;simp[go_sem,h,t]
theorem CR {a:Addr} (h:o.op=.nilCheck p) (t:e p=ξ (ζ a)):(bh e o).run prog w=.ok (.value (ξ (ζ a))) w:=by unfold bh;simp[go_sem,h,t]
theorem QS (f:dw) (D:f<3) (h:o.op=.fieldAddr 80 p f) (t:e p=ξ (ζ ⟨g,k,ε⟩)):(bh e o).run prog w=.ok (.value (ξ (ζ ⟨g,k+f,ε⟩))) w:=by
 have u:=underlying80;have y:f=0\/f=1\/f=2:=by omega
 have z:∀j,(⟨g,k,ε⟩:Addr).add j=⟨g,k+j,ε⟩:=λj=>Addr.add_lit ..;unfold bh;rcases y with rfl|rfl|rfl<;>simp[go_sem,h,t,u,z]
end
theorem LM (y:dw->ah):lay 106 y=#[y 0,y 1,y 2,y 3,y 4,y 5,y 6,y 7,y 8,y 9,y 10,y 11,y 12,y 13,y 14,y 15,y 16,y 17,y 18,y 19,y 20,y 21,y 22,y 23,y 24,y 25,y 26,y 27,y 28,y 29,y 30,y 31,y 32,y 33,y 34,y 35,y 36,y 37,y 38,y 39,y 40,y 41,y 42,y 43,y 44,y 45,y 46,y 47,y 48,y 49,y 50,y 51,y 52,y 53,y 54,y 55,y 56,y 57,y 58,y 59,y 60,y 61,y 62,y 63,y 64,y 65,y 66,y 67,y 68,y 69,y 70,y 71,y 72,y 73,y 74,y 75,y 76,y 77,y 78,y 79,y 80,y 81,y 82,y 83,y 84,y 85,y 86,y 87,y 88,y 89,y 90,y 91,y 92,y 93,y 94,y 95,y 96,y 97,y 98,y 99,y 100,y 101,y 102,y 103,y 104,y 105]:=rfl
def jbg:Code->Code
 |.seq _ b=>b
 |c=>c
noncomputable def cg1:iO Oper:=match Tryz.f40.body with
 |some (.seq _ (.seq _ (.seq _ (.seq _ (.seq _ (.seq _ (.seq _ (.seq (.seq _ (.cond _ a _)) _))))))))=>rg a
 |_=>#[]
theorem Y0 {K:Act->aa->Prop} {t:iO ah} (h:t.size=n) (g:K ⟨lay n λj=>t.getD j ce,[]⟩ w):K ⟨t,[]⟩ w:=by
 have e:lay n (λj=>t.getD j ce)=t:=by apply dG;{simp[lay,h]};intro i y u;simp[lay,dx,u]
 rwa [e]at g
section
variable {cl cb n x:dw} {pv cv:ah} {ld:bn} {m:Mv} {k v:bn} {g:gI}
theorem MX.RY {t off cap H:dw} {c:Chg} (h:MX x n pv cv ld m w) (o:Obj) (M:w1=(w.alloc o).drew) (y:w1.grownBy w3 cv.ownBlock) (R:jo w3 87 3 (Δ (ζ ⟨t,off,ε⟩) (m.cs.length+1) cap) (m.cs.length+1) (kg m.cs++[sv c.k,sv c.v,χ c.g])) (K:cv.ownBlock=ζ t\/t=H) (V:w1.heap.size=H):
  w3.cell? ⟨x,4,ε⟩=ζ cv/\w3.frozen? ⟨x,4,ε⟩=θ/\(MX x n pv (Δ (ζ ⟨t,off,ε⟩) (m.cs.length+1) cap) ld {m with cs:=m.cs++[c]} (w3.setCell ⟨x,4,ε⟩ (Δ (ζ ⟨t,off,ε⟩) (m.cs.length+1) cap)))/\
   (∀b,(Value.slice (ζ ⟨t,off,ε⟩) (m.cs.length+1) cap).ownBlock=ζ b->cv.ownBlock=ζ b\/w.heap.size<=b)/\But (λq=>q=x\/cv.ownBlock=ζ q) w (w3.setCell ⟨x,4,ε⟩ (Δ (ζ ⟨t,off,ε⟩) (m.cs.length+1) cap)):=by
 have O:=h.lt;have z:But (λ_=>je) w w1:=by subst M;exact⟨by simp,λb u _=>aF w o u,lc,lc⟩
 have U:=z.size;have G:ζ x≠cv.ownBlock:=λe=>by obtain⟨T,I⟩:=jo.ty h.r e.symm;rw[h.b]at I;cases I
 have E:But (λb=>cv.ownBlock=ζ b) w w3:=⟨by have:=y.size;omega,λb u Q=>(y.block b (by omega) λe=>Q e.symm).trans (z.keep b u id),y.os.trans z.os,y.output.trans z.output⟩
 have D:=(E.keep x O λe=>G e.symm).trans h.b;have N:t≠x:=λe=>by rcases K with e2|e2;{exact G (by rw[e2,e])};omega
 refine⟨by simp[ae,D,qw],by simp[al,D],⟨(xhs w3 x 4 _ _ _ D).trans lc,?_⟩,λb u=>?_,But.setCell (E.mono λb e=>.inr e) (.inl lc) 4 _⟩;{unfold sV;rw[show({m with cs:=m.cs++[c]}:Mv).cs=m.cs++[c]from lc,aj,show kg (m.cs++[c])=kg m.cs++[sv c.k,sv c.v,χ c.g] by simp[kg]];exact R.block λb u=>xho _ _ _ _ λe=>N ((xoi u).trans e)};obtain rfl:=xoi u;exact K.imp id λe=>by show w.heap.size<=t;omega
theorem Ps {t:iO ah} {K:Act->aa->Prop} {F:Func} {PP:bR->aa->Prop} (ht:t.size=106) (H:t.getD 3 ce=ξ (ζ ⟨cb,0,ε⟩)) (I:t.getD 7 ce=ξ (ζ ⟨cl,1+n*3,ε⟩))
  (M:MX x n pv cv ld m w) (U:w.cell? ⟨cl,1+n*3+2,ε⟩=ζ (ξ (ζ ⟨x,0,ε⟩))) (c0:w.cell? ⟨cb,0,ε⟩=ζ (Γ k)) (c1:w.cell? ⟨cb,1,ε⟩=ζ (Γ v)) (c2:w.cell? ⟨cb,2,ε⟩=ζ (χ g)) (mG:cv.ownBlock≠ζ cl) (iw:m.cs.length<=1073741820)
  (R:∀y w' cv',MX x n pv cv' ld {m with cs:=m.cs++[AX k v g]} w'->(∀b,cv'.ownBlock=ζ b->cv.ownBlock=ζ b\/w.heap.size<=b)->But (λq=>q=x\/cv.ownBlock=ζ q) w w'->K ⟨lay 106 y,[]⟩ w'):(aP 16 cg1 η).wp prog (Exit.then K (bodyPost prog F PP)) ⟨t,[]⟩ w:=by
 have e:lay 106 (λj=>t.getD j ce)=t:=by apply dG;{simp[lay,ht]};intro i h1 h2;simp[lay,dx,h2]
 rw[<-e];clear e;obtain⟨z,D⟩:∃z:dw->ah,(λj=>t.getD j ce)=z:=⟨_,lc⟩
 have H:z 3=ξ (ζ ⟨cb,0,ε⟩):=by rw[<-D];exact H
 have I:z 7=ξ (ζ ⟨cl,1+n*3,ε⟩):=by rw[<-D];exact I
 rw[D];clear D;obtain⟨z,rfl⟩:=ql H;obtain⟨z,rfl⟩:=ql (x:=z) (j:=7) (v:=ξ (ζ ⟨cl,1+n*3,ε⟩)) I;clear H I;have N:=Hd M;have HQ:=Hd R;have m4:=M.cells.1;have l1:=M.lt;have l2:=xbl w _ U;have l3:=xbl w _ c0;obtain⟨ci,V,Y,Z,i4⟩:=PX;have G:=Hd (ac V (ac Y (ac Z i4)));clear M R V Y Z i4;rw[LM];unfold cg1;simp only[Tryz.f40,Option.getD,rg,jbg,upd,Nat.reduceEqDiff,kT,if_false];go_region_law (refine Yx _ lc (.tmp 100) (.tmp 102) 130 lc 87 ci _ 3 40 underlying130 G.1 G.2.1 G.2.2.1 G.2.2.2 lc cv m.cs.length (kg m.cs) lc (N.r.block λb hb=>aF w _ (jo.lt N.r hb)) ⟨w.heap.size,0,ε⟩ 1 [Γ k,Γ v,χ g] lc lc (cells3 w _ _ _ _) (by intro u T;simp at T;rcases T with rfl|rfl|rfl<;>rfl) (by unfold aL;omega) (by omega) _ lc ?_;intro gb off cap w3 Q O iL;rw[<-tX k,<-tX v]at Q;have E:=Hd (MX.RY (c:=AX k v g) N.o _ lc O Q iL lc);obtain⟨d3,e3,_⟩:=E.o;have f3:=(xcb (a:=⟨cl,1+n*3+2,ε⟩) (w:=w) ((O.block cl (by simp;exact Nat.lt_succ_of_lt l2) λe=>mG e.symm).trans (aF w _ l2))).trans U;clear Q O iL);all_goals exact Y0 lc (HQ.o _ _ _ E.2.2.1 E.2.2.2.1 E.2.2.2.2)
variable {e:cK->ah} {o:Oper} {p q r s:cK} {v:ah} {g f k:dw} {w:aa} {i j l:gJ} {sa:gU Addr} {cp:dw}
theorem q8g (h:o.op=.fieldAddr 83 p 3) (t:e p=ξ (ζ ⟨g,0,ε⟩)):(bh e o).run prog w=.ok (.value (ξ (ζ ⟨g,14,ε⟩))) w:=by have u:=underlying83;unfold bh;simp[go_sem,h,t,u]
theorem qyd (h:o.op=.build 135 #[(0,p),(1,q),(2,r),(3,s)]) (t:e p=σ υ i) (u:e q=σ υ j) (y:e r=σ υ l) (z:e s=.slice sa n cp):(bh e o).run prog w=.ok (.value (Θ #[σ υ i,σ υ j,σ υ l,.slice sa n cp,Δ ε 0 0,σ Ξ 0,σ υ 0,σ υ 0,σ υ 0,Γ ⟨#[]⟩,Γ ⟨#[]⟩,σ υ 0,χ θ])) w:=by unfold bh;simp[go_sem,h,t,u,y,z]
theorem q8f {i j l:gJ} {sa:gU Addr} {n cp:dw} (h:o.op=.box 135 p) (u:e p=Θ #[σ υ i,σ υ j,σ υ l,.slice sa n cp,Δ ε 0 0,σ Ξ 0,σ υ 0,σ υ 0,σ υ 0,Γ ⟨#[]⟩,Γ ⟨#[]⟩,σ υ 0,χ θ]):(bh e o).run prog w=.ok (.value (ξ (ζ ⟨w.heap.size,0,ε⟩))) (w.alloc (ω #[σ υ i,σ υ j,σ υ l,.slice sa n cp,Δ ε 0 0,σ Ξ 0,σ υ 0,σ υ 0,σ υ 0,Γ ⟨#[]⟩,Γ ⟨#[]⟩,σ υ 0,χ θ] 135)):=by have t:=Tryz.isAgg135;unfold bh;simp[go_sem,h,u,t]
theorem q2n {o:Oper} {p q r:cK} {f:FuncId} {ty:iO aT} {u v x:ah} {fn:Func} {w:aa} (h:o.op=.call {callee:=.value (.func f),args:=#[p,q,r],argTypes:=ty}) (z:a.eval p=u) (D:a.eval q=v) (E:a.eval r=x) (y:prog.funcs[f]?=ζ fn) (G:(fn.name== "runtime.NumGoroutine")=θ) (t:fn.body.isNone=θ):(bh a.eval o).run prog w=.ok (.enter f #[u,v,x]) w:=by rw[run_call_body h y G t];simp[z,D,E]
theorem jbc (L:KV):L.filter (inB [] [])=L:=by
 rw[List.filter_eq_self];intro p _;have e:aK p.1 []=θ:=by cases p.1<;>rfl
 simp[inB,e]
end
noncomputable def bg1:iO Oper:=match Tryz.f58.body with
 |some (.seq _ (.seq a _))=>rg a
 |_=>#[]
theorem jl8 (y:dw->ah):lay 46 y=#[y 0,y 1,y 2,y 3,y 4,y 5,y 6,y 7,y 8,y 9,y 10,y 11,y 12,y 13,y 14,y 15,y 16,y 17,y 18,y 19,y 20,y 21,y 22,y 23,y 24,y 25,y 26,y 27,y 28,y 29,y 30,y 31,y 32,y 33,y 34,y 35,y 36,y 37,y 38,y 39,y 40,y 41,y 42,y 43,y 44,y 45]:=rfl
noncomputable def bgo (k:dw):Oper:=bg1.getD k ⟨ε,.alloc 0,0, "",#[],ε⟩
theorem q97:Ee bg1 46=η:=by kernel_rfl
section
variable {cl n db mb id ow to:dw} {L:KV} {w0:aa}
def Kbg (cl n db id ow to:dw) (L:KV) (w0:aa):dw->ah->aa->Prop
 |0,u,_=>u=ξ (ζ ⟨cl,1+n*3,ε⟩)
 |1,u,_=>u=ξ (ζ ⟨cl,0,ε⟩)
 |2,u,_=>u=ξ (ζ ⟨cl,0,ε⟩)
 |3,u,_=>u=ξ (ζ ⟨cl,14,ε⟩)
 |4,u,_=>u=σ υ id
 |5,u,_=>u=ξ (ζ ⟨cl,1+n*3,ε⟩)
 |6,u,_=>u=ξ (ζ ⟨cl,1+n*3,ε⟩)
 |7,u,_=>u=ξ (ζ ⟨cl,1+n*3,ε⟩)
 |8,u,_=>u=σ υ ow
 |9,u,_=>u=σ υ to
 |10,u,_=>u=ξ (ζ ⟨cl,1+n*3,ε⟩)
 |11,u,_=>u=ξ (ζ ⟨cl,1+n*3,ε⟩)
 |12,u,_=>u=ξ (ζ ⟨cl,1+n*3+1,ε⟩)
 |13,u,_=>u=ξ (ζ ⟨db,0,ε⟩)
 |14,u,w=>∃s c,u=.slice s L.length c/\w.ownsRow w0.heap.size 74 2 u L.length (flat L)
 |15,u,w=>∃s c,u=Θ #[σ υ id,σ υ ow,σ υ to,(.slice s L.length c),Δ ε 0 0,σ Ξ 0,σ υ 0,σ υ 0,σ υ 0,Γ ⟨#[]⟩,Γ ⟨#[]⟩,σ υ 0,χ θ]/\w.ownsRow w0.heap.size 74 2 (.slice s L.length c) L.length (flat L)
 |16,u,w=>∃s c g,u=ξ (ζ ⟨g,0,ε⟩)/\w0.heap.size<=g/\w.heap[g]?=ζ (ω #[σ υ id,σ υ ow,σ υ to,(.slice s L.length c),Δ ε 0 0,σ Ξ 0,σ υ 0,σ υ 0,σ υ 0,Γ ⟨#[]⟩,Γ ⟨#[]⟩,σ υ 0,χ θ] 135 (0,0))/\w.ownsRow w0.heap.size 74 2 (.slice s L.length c) L.length (flat L)
 |17,u,_=>u=ξ (ζ ⟨cl,1+n*3,ε⟩)
 |18,u,_=>u=ξ (ζ ⟨cl,1+n*3+2,ε⟩)
 |_,_,_=>kZ
theorem XC (j:dw) (u:ah) (w w':aa) (y:ay w.heap.size w w') (h:Kbg cl n db id ow to L w0 j u w):Kbg cl n db id ow to L w0 j u w':=by
 match j,h with
 |0,h|1,h|2,h|3,h|4,h|5,h|6,h|7,h|8,h|9,h|10,h|11,h|12,h|13,h=>exact h
 |14,⟨s,c,h1,h2⟩=>exact⟨s,c,h1,qi h2 λq t=>y.block q (h2.lt q t).2⟩
 |15,⟨s,c,h1,h2⟩=>exact⟨s,c,h1,qi h2 λq t=>y.block q (h2.lt q t).2⟩
 |16,⟨s,c,g,h1,h2,h3,h4⟩=>exact⟨s,c,g,h1,h2,(y.block g (j5 h3).1).trans h3,qi h4 λq t=>y.block q (h4.lt q t).2⟩
 |17,h|18,h=>exact h
 |i+19,_=>trivial
theorem jj6 {Q:Exit->Act->aa->Prop} (fC:a.tmps.size=46) (Fs:a.defers=[]) (h0:a.tmps.getD 0 ce=ξ (ζ ⟨cl,0,ε⟩)) (O:a.tmps.getD 1 ce=ξ (ζ ⟨cl,1+n*3,ε⟩)) (h3:a.tmps.getD 3 ce=σ υ to)
  (Y:w.cell? ⟨cl,14,ε⟩=ζ (σ υ id)) (cO:w.cell? ⟨cl,1+n*3,ε⟩=ζ (σ υ ow)) (cD:w.cell? ⟨cl,1+n*3+1,ε⟩=ζ (ξ (ζ ⟨db,0,ε⟩))) (K:∃v,w.cell? ⟨cl,1+n*3+2,ε⟩=ζ v) (fV:w.frozen? ⟨cl,1+n*3+2,ε⟩=θ) (Z:w.cell? ⟨db,0,ε⟩=ζ (.map (ζ mb))) (hm:zk w mb L) (kU:yh L) (hL:L.length<=16777216) (kG:∀p∈L,p.1.length<=aL)
  (hQ:∀y w1 g s c,(∀s,(∀(j:dw) o,bg1[j]?=ζ o->o.dst≠ζ s)->y s=a.tmps.getD s ce)->ay w.heap.size w w1->w.heap.size<=g->w1.heap[g]?=ζ (ω #[σ υ id,σ υ ow,σ υ to,(.slice s L.length c),Δ ε 0 0,σ Ξ 0,σ υ 0,σ υ 0,σ υ 0,Γ ⟨#[]⟩,Γ ⟨#[]⟩,σ υ 0,χ θ] 135 (0,0))->w1.ownsRow w.heap.size 74 2 (.slice s L.length c) L.length (flat L)->Q .normal ⟨lay 46 y,[]⟩ (w1.setCell ⟨cl,1+n*3+2,ε⟩ (ξ (ζ ⟨g,0,ε⟩)))):(aP 1 bg1 η).wp prog Q a w:=by
 have M:=xbl w _ Y;have ltd:=xbl w _ Z;refine Yv (n:=46) (x0:=λs=>a.tmps.getD s ce) (turn:=20) (KN:=Kbg cl n db id ow to L w) (J:=λ_ w1=>ay w.heap.size w w1) (by kernel_rfl) q97 ⟨_,?_,λ_=>lc⟩ (bD (qy _ _)) ?_ ?_;{obtain⟨t,df⟩:=a;obtain rfl:df=[]:=Fs;rw[Bc fC]}
 .intro j o d y w1 b Kn z E I G D;have old:∀q,q<w.heap.size->w1.heap[q]?=w.heap[q]?:=λq O=>D.block q O;have y0:y 0=ξ (ζ ⟨cl,0,ε⟩):=(I 0 (yB (by kernel_rfl))).trans h0;have T:y 1=ξ (ζ ⟨cl,1+n*3,ε⟩):=(I 1 (yB (by kernel_rfl))).trans O;have y3:y 3=σ υ to:=(I 3 (yB (by kernel_rfl))).trans h3;match j,z with
  |0,z=>cases z;cases E;exact qo (run_move lc (xg T)) ⟨_,qd lc,lc,D,λ_ _ _ h=>h⟩
  |1,z=>cases z;cases E;exact qo (run_move lc (xg y0)) ⟨_,qd lc,lc,D,λ_ _ _ h=>h⟩
  |2,z=>cases z;cases E;have k1:y 16=ξ (ζ ⟨cl,0,ε⟩):=G 1 _ 16 lc lc (qp lc);exact qo (CR lc (xg k1)) ⟨_,qd lc,lc,D,λ_ _ _ h=>h⟩
  |3,z=>cases z;cases E;have k2:y 17=ξ (ζ ⟨cl,0,ε⟩):=G 2 _ 17 lc lc (qp lc);exact qo (q8g lc (xg k2)) ⟨_,qd lc,lc,D,λ_ _ _ h=>h⟩
  |4,z=>cases z;cases E;have k3:y 18=ξ (ζ ⟨cl,14,ε⟩):=G 3 _ 18 lc lc (qp lc);exact qo (zq (ty:=3) lc (xg k3) (by simp[isAgg]) ((xcb (old cl M)).trans Y)) ⟨_,qd lc,lc,D,λ_ _ _ h=>h⟩
  |5,z=>cases z;cases E;exact qo (run_move lc (xg T)) ⟨_,qd lc,lc,D,λ_ _ _ h=>h⟩
  |6,z=>cases z;cases E;have k5:y 20=ξ (ζ ⟨cl,1+n*3,ε⟩):=G 5 _ 20 lc lc (qp lc);exact qo (CR lc (xg k5)) ⟨_,qd lc,lc,D,λ_ _ _ h=>h⟩
  |7,z=>cases z;cases E;have k6:y 21=ξ (ζ ⟨cl,1+n*3,ε⟩):=G 6 _ 21 lc lc (qp lc);exact qo (QS 0 (by decide) lc (xg k6)) ⟨_,qd lc,lc,D,λ_ _ _ h=>h⟩
  |8,z=>cases z;cases E;have k7:y 22=ξ (ζ ⟨cl,1+n*3,ε⟩):=G 7 _ 22 lc lc (qp lc);exact qo (zq (ty:=3) lc (xg k7) (by simp[isAgg]) ((xcb (old cl M)).trans cO)) ⟨_,qd lc,lc,D,λ_ _ _ h=>h⟩
  |9,z=>cases z;cases E;exact qo (run_move lc (xg y3)) ⟨_,qd lc,lc,D,λ_ _ _ h=>h⟩
  |10,z=>cases z;cases E;exact qo (run_move lc (xg T)) ⟨_,qd lc,lc,D,λ_ _ _ h=>h⟩
  |11,z=>cases z;cases E;have nX:y 25=ξ (ζ ⟨cl,1+n*3,ε⟩):=G 10 _ 25 lc lc (qp lc);exact qo (CR lc (xg nX)) ⟨_,qd lc,lc,D,λ_ _ _ h=>h⟩
  |12,z=>cases z;cases E;have xQ:y 26=ξ (ζ ⟨cl,1+n*3,ε⟩):=G 11 _ 26 lc lc (qp lc);exact qo (QS 1 (by decide) lc (xg xQ)) ⟨_,qd lc,lc,D,λ_ _ _ h=>h⟩
  |13,z=>cases z;cases E;have xP:y 27=ξ (ζ ⟨cl,1+n*3+1,ε⟩):=G 12 _ 27 lc lc (qp lc);exact qo (zq (ty:=77) lc (xg xP) (by simp[isAgg]) ((xcb (old cl M)).trans cD)) ⟨_,qd lc,lc,D,λ_ _ _ h=>h⟩
  |14,z=>cases z;cases E;have EP:y 28=ξ (ζ ⟨db,0,ε⟩):=G 13 _ 28 lc lc (qp lc);refine Ez (q2n lc (xg EP) lc lc func56 lc lc) (VP ((xcb (old _ ltd)).trans Z) (hm.block (old _ hm.lt)) kU hL kG ⟨#[]⟩ ⟨#[]⟩) ?_;have he:L.filter (inB (⟨#[]⟩:bn).data.toList (⟨#[]⟩:bn).data.toList)=L:=jbc L;rw[he];rintro e w2 ⟨v,rfl,H,hb⟩;obtain⟨s,c,rfl⟩:=Jk H;exact⟨_,lc,_,qd lc,⟨s,c,lc,(Bh H.1 H.2 D.size lc).1⟩,D.trans (hb.mono D.size),λi u _ h=>XC i u _ _ hb h⟩
  |15,z=>cases z;cases E;have k4:y 19=σ υ id:=G 4 _ 19 lc lc (qp lc);have k8:y 23=σ υ ow:=G 8 _ 23 lc lc (qp lc);have k9:y 24=σ υ to:=G 9 _ 24 lc lc (qp lc);obtain⟨s,c,U,R⟩:Kbg cl n db id ow to L w 14 (y 29) w1:=G 14 _ 29 lc lc (qp lc);exact qo (qyd lc (xg k4) (xg k8) (xg k9) (xg U)) ⟨_,qd lc,⟨s,c,lc,U▸R⟩,D,λ_ _ _ h=>h⟩
  |16,z=>cases z;cases E;obtain⟨s,c,EO,V⟩:Kbg cl n db id ow to L w 15 (y 30) w1:=G 15 _ 30 lc lc (qp lc);have N:ay w1.heap.size w1 (w1.alloc (ω #[σ υ id,σ υ ow,σ υ to,(.slice s L.length c),Δ ε 0 0,σ Ξ 0,σ υ 0,σ υ 0,σ υ 0,Γ ⟨#[]⟩,Γ ⟨#[]⟩,σ υ 0,χ θ] 135)):=(qy _ _).alloc (jg _) _;exact qo (q8f lc (xg EO)) ⟨_,qd lc,⟨s,c,w1.heap.size,lc,D.size,az _ _,qi V λq hq=>N.block q (V.lt q hq).2⟩,D.trans (N.mono D.size),λi u _ h=>XC i u _ _ N h⟩
  |17,z=>cases z;cases E;have k0:y 15=ξ (ζ ⟨cl,1+n*3,ε⟩):=G 0 _ 15 lc lc (qp lc);exact qo (CR lc (xg k0)) ⟨_,qd lc,lc,D,λ_ _ _ h=>h⟩
  |18,z=>cases z;cases E;have EN:y 32=ξ (ζ ⟨cl,1+n*3,ε⟩):=G 17 _ 32 lc lc (qp lc);exact qo (QS 2 (by decide) lc (xg EN)) ⟨_,qd lc,lc,D,λ_ _ _ h=>h⟩
  |19,z=>obtain rfl:=xop (a:=bgo 19) lc z;exact gY (show(bgo 19).dst=ε from lc) (by rw[E];exact λe=>by cases e)
  |i+20,z=>exact gY z (by rw[aX (show bg1.size<=i+20 by show 20<=i+20;omega)];exact λe=>by cases e)
 .intro mm o y w1 yP z I hk D;obtain rfl:mm=19:=by have:mm+1=20:=yP;omega
  obtain rfl:=xop (a:=bgo 19) lc z;have ka:y 33=ξ (ζ ⟨cl,1+n*3+2,ε⟩):=hk 18 (bgo 18) 33 lc lc;obtain⟨s,c,g,kb,q1,q2,q3⟩:Kbg cl n db id ow to L w 16 (y 31) w1:=hk 16 (bgo 16) 31 lc lc;obtain⟨v0,K⟩:=K;have eZ:=xbl w _ K;have mX:w1.cell? ⟨cl,1+n*3+2,ε⟩=ζ v0:=(xcb (D.block _ eZ)).trans K;have jB:w1.frozen? ⟨cl,1+n*3+2,ε⟩=θ:=(World.frozen?_of_block (D.block _ eZ)).trans fV;have H:(bh (Act.mk (lay 46 y) []).eval (bgo 19)).run prog w1=.ok .skip (w1.setCell ⟨cl,1+n*3+2,ε⟩ (ξ (ζ ⟨g,0,ε⟩))):=by have e1:(Act.mk (lay 46 y) []).eval (.tmp 33)=ξ (ζ ⟨cl,1+n*3+2,ε⟩):=tmp (by decide) ka;have e2:(Act.mk (lay 46 y) []).eval (.tmp 31)=ξ (ζ ⟨g,0,ε⟩):=tmp (by decide) kb;have eY:(bgo 19).op=.store 78 (.tmp 33) (.tmp 31):=lc;have hu:=underlying78;generalize (Act.mk (lay 46 y) []).eval=ev at*;unfold bh;simp[go_sem,eY,e1,e2,hu,isAgg,mX,jB]
  unfold Oper.wp;rw[H];exact hQ y w1 g s c I D q1 q2 q3
variable {w w':aa} {x:dw} {pv cv:ah} {ld:bn} {m:Mv}
theorem Qr {y:aa} {v:bn} (D:rV L k.data.toList v.data.toList g=0/\chL L k.data.toList v.data.toList g=X) (u:zk w3 mb X) (E:MX x n pv cv ld m w3) (z:But (· =mb) w w3)
  (t:MX x n pv cv' ld {m with cs:=m.cs++[AX k v g]} y/\(∀b,cv'.ownBlock=ζ b->cv.ownBlock=ζ b\/w3.heap.size<=b)/\But (λq=>q=x\/cv.ownBlock=ζ q) w3 y):
  Ms w mb x n pv cv ld m (chL L k.data.toList v.data.toList g) (csL L m.cs k v g) (rV L k.data.toList v.data.toList g) (ψ (σ υ 0)) y:=by
 unfold csL;rw[D.1,D.2,fo lc];refine⟨lc,u.block (t.2.2.keep _ u.lt ?_),⟨cv',t.1,λb G=>(t.2.1 b G).imp id λe=>xlt z.size e⟩,(z.mono λb e=>.inl e).trans (t.2.2.mono λb e=>.inr e)⟩;rintro(e|e);{exact kz u E.b e.symm};obtain⟨c,H⟩:=jo.ty E.r e;exact kz u H lc
theorem qt2 (k v:bn) (g:gI) (n:dw) (hn:n<4) (hk:jN k.data.toList=η) (jH:q9 k.data.toList=n) (kG:k.size<=aL) (hL:L.length<=16777216) (hp:vC w cl n db mb (ζ ⟨x,0,ε⟩) L) (hx:MX x n pv cv ld m w) (hs:m.sealed=θ) (iw:m.cs.length<=1073741820) (mG:cv.ownBlock≠ζ cl):
  aD prog 40 #[ξ (ζ ⟨cl,0,ε⟩),Θ #[Γ k,Γ v,χ g]] w (Ms w mb x n pv cv ld m (chL L k.data.toList v.data.toList g) (csL L m.cs k v g) (rV L k.data.toList v.data.toList g)):=by
 have pO:((n:gJ)<4):=by omega
 have HX:=Hd hx;have HS:=Hd hs;have Ub:=Hd mG;clear hx hs mG;have HCB:Hid (cv.ownBlock≠ζ w.heap.size):=Hd λe=>gY (jo.lt HX.r e) (da _);go_enter func40,ntmps40;go_wp2_with (go_at_call 41;refine(IC _ _ hk).mono ?_;rintro e w1 ⟨rfl,hb⟩;rw[jH])
 obtain⟨mX,nJ⟩:=ChW.of hp hb;clear hb hp;have KR:=Hd nJ;have uH:=Hd (ac mX (HX.below nJ));obtain⟨c0,c1,c2,pd,pv',pm,pl⟩:=id mX;clear nJ mX pl;go_region_held3 (λw'=>w'.cell? ⟨cl,1+n*3+1,ε⟩=ζ (ξ (ζ ⟨db,0,ε⟩))/\w'.cell? ⟨w.heap.size,0,ε⟩=ζ (Γ k)/\Hid (ChM w.heap.size cl n db mb x pv cv ld m L k v g w'/\ay w.heap.size w w'))
  (first|exact⟨pd,c0,Hd ⟨⟨uH.1.drew,uH.2.below (bD (qy _ _))⟩,KR.drew⟩⟩|exact⟨(t.1).1.d,(t.1).1.c0,t⟩)
  (first|(go_at_call 42;refine(XI (by assumption) kG).mono ?_;rintro e w2 ⟨rfl,pR⟩;have t:=Hd pR;clear pR))
 obtain⟨Y,iV⟩:∃b,(jh L k.data.toList).isSome=b:=⟨_,lc⟩
 rw[iV];have HF:=Hd iV;clear iV;generalize sv ((jh L k.data.toList).getD [])=gv;obtain⟨e0,e1,e2,ed,ev,O,el⟩:=t.1.1;obtain⟨q1,q2,q3⟩:=t.1.2.cells;rw[HS.o]at q2;have D:=Hd el;clear el;by_cases ou:12<v.size
 .have HE:=Hd (Zl (L:=L) (k:=k.data.toList) (g:=g) (v:=v.data.toList) (by simpa using ou));have g1:ν ((12:gJ)<v.size)=η:=by simp;omega
  go_wp2;go_ret;unfold csL;rw[HE.1,HE.2,eD (by decide)];exact .idle t.1.2 D.o t.2
 have K:=Hd (Zk (L:=L) (k:=k.data.toList) (g:=g) (v:=v.data.toList) (by simpa using ou));rw[HF.o]at K;have g1:ν ((12:gJ)<v.size)=θ:=by simp;omega
 cases g
 .cases Y
  .by_cases sQ:L.length=12
   .have HE:=Hd (K.1 lc lc sQ);go_wp2_with (go_at_call 68;refine(LJ O D.o).mono ?_;rintro e w' ⟨rfl,rfl⟩)
    go_ret;unfold csL;rw[HE.1,HE.2,eD (by decide)];exact .idle t.1.2 D.o t.2
   .have HE:=Hd (K.2.1 lc (.inr sQ));go_wp2_with (go_at_call 68;refine(LJ O D.o).mono ?_;rintro e w' ⟨rfl,rfl⟩)
    refine bB 5 (by kernel_rfl) (by kernel_rfl) ?_;change wpStill _ _ w2.drew (λN=>wpList _ _ _ _ N w2.drew) _ _;simp only[aE,bX,bC,bY];repeat still_step
    refine cF ?_;go_wp2_with (go_at_call 69;refine(IQ (w:=w2.drew) O (D.block lc) (by omega) k v kG).mono ?_;rintro e w3 ⟨rfl,G,u⟩;have z:=Hd (ac (t.1.1.drew.but u G) ((t.1.2.below (w':=w2.drew) (bD (qy _ _))).but (D.block lc) u));have Z:=Hd ((il (B:=(· =mb)) t.2).drew.trans u);obtain⟨Q,R,T,fd,V,fm,U⟩:=z.1;clear U G u)
    change cJ _ (aP 16 cg1 η) _ _ _;refine Ps (cb:=w.heap.size) (k:=k) (v:=v) (g:=θ) lc lc lc z.2 V Q R T Ub.o iw λy w4 cv' I H E=>?_;rw[LM];have M:=Hd (ac I (ac H E));clear I H E;go_wp2;go_ret;exact Qr HE.o z.1.l z.2 Z.o M.o
  .have HE:=Hd (K.2.1 lc (.inl lc));go_wp2;refine bB 5 (by kernel_rfl) (by kernel_rfl) ?_;change wpStill _ _ w2.drew (λN=>wpList _ _ _ _ N w2.drew) _ _;simp only[aE,bX,bC,bY];repeat still_step
   refine cF ?_;go_wp2_with (go_at_call 69;refine(IQ (w:=w2.drew) O (D.block lc) (by omega) k v kG).mono ?_;rintro e w3 ⟨rfl,G,u⟩;have z:=Hd (ac (t.1.1.drew.but u G) ((t.1.2.below (w':=w2.drew) (bD (qy _ _))).but (D.block lc) u));have Z:=Hd ((il (B:=(· =mb)) t.2).drew.trans u);obtain⟨Q,R,T,fd,V,fm,U⟩:=z.1;clear U G u)
   change cJ _ (aP 16 cg1 η) _ _ _;refine Ps (cb:=w.heap.size) (k:=k) (v:=v) (g:=θ) lc lc lc z.2 V Q R T Ub.o iw λy w4 cv' I H E=>?_;rw[LM];have M:=Hd (ac I (ac H E));clear I H E;go_wp2;go_ret;exact Qr HE.o z.1.l z.2 Z.o M.o
 .cases Y;{have HE:=Hd (K.2.2.1 lc lc);go_wp2;go_ret;unfold csL;rw[HE.1,HE.2,eD (by decide)];exact .idle t.1.2 D.o t.2}
  .have HE:=Hd (K.2.2.2 lc lc);go_wp2;refine bB 5 (by kernel_rfl) (by kernel_rfl) ?_;change wpStill _ _ w2.drew (λN=>wpList _ _ _ _ N w2.drew) _ _;simp only[aE,bX,bC,bY];repeat still_step
   refine cF ?_;go_wp2_with (go_at_call 69;refine(PD (w:=w2.drew) O (D.block lc) k v kG).mono ?_;rintro e w3 ⟨rfl,G,u⟩;have z:=Hd (ac (t.1.1.drew.but u G) ((t.1.2.below (w':=w2.drew) (bD (qy _ _))).but (D.block lc) u));have Z:=Hd ((il (B:=(· =mb)) t.2).drew.trans u);obtain⟨Q,R,T,fd,V,fm,U⟩:=z.1;clear U G u)
   change cJ _ (aP 16 cg1 η) _ _ _;refine Ps (cb:=w.heap.size) (k:=k) (v:=v) (g:=η) lc lc lc z.2 V Q R T Ub.o iw λy w4 cv' I H E=>?_;rw[LM];have M:=Hd (ac I (ac H E));clear I H E;go_wp2;go_ret;exact Qr HE.o z.1.l z.2 Z.o M.o
end
end Ph
open Go.RowKit Go.Maps
section
variable {w w':aa} {F F':dw->Prop} {A:PA} {s:St} {n:dw}
def pJ:gU Mv->gI
 |none=>θ
 |some m=>m.sealed
theorem mM.keep {m:gU Mv} (h:mM w F A i m) (K:∀b cur,A.mp i=ζ b->w.heap[b]?=ζ (ao cur 135 (0,0))->w'.heap[b]?=w.heap[b]?) (M:∀b cur,(A.pv i).ownBlock=ζ b->w.heap[b]?=ζ (ao cur 74 (0,0))->w'.heap[b]?=w.heap[b]?) (N:∀b cur,(A.cv i).ownBlock=ζ b->w.heap[b]?=ζ (ao cur 87 (0,0))->w'.heap[b]?=w.heap[b]?):mM w' F A i m:=by
 cases m with
 |none=>exact h
 |some m=>obtain⟨g,y,G,z,D,E,H,I⟩:=h;refine⟨g,y,G,(K g _ y z).trans z,D.block λb t=>?_,E.block λb t=>?_,H,I⟩;{obtain⟨c,u⟩:=jo.ty D t;exact M b _ t u};obtain⟨c,u⟩:=jo.ty E t;exact N b _ t u
theorem zx.put (h:zx w F A s) (D:n<4) (E:But (· =A.mb n) w w') (G:zk w' (A.mb n) X):zx w' F A {s with kv:=vv s.kv n X}:=by have no:∀(b:dw) (cur:iO ah) (ty:aT),w.heap[b]?=ζ (ao cur ty (0,0))->w'.heap[b]?=w.heap[b]?:=λb cur ty t=>E.keep b (j5 t).1 (kz (h.mb n D).2 t);refine⟨⟨h.cl.1,(no _ _ _ h.cl.2).trans h.cl.2⟩,λi u=>⟨(h.db i u).1,(no _ _ _ (h.db i u).2).trans (h.db i u).2⟩,λi u=>⟨(h.mb i u).1,?_⟩,h.mbi,λi u=>(h.mv i u).keep (λb cur _ t=>no b cur _ t) (λb cur _ t=>no b cur _ t) (λb cur _ t=>no b cur _ t),h.mpi,h.cvi,h.yc.keep (λb cur ty t _=>no b cur ty t) (λb ⟨O,N,t⟩ H=>E.keep b (j5 t).1 λe=>H.elim (λz=>h.smb n D (e.symm.trans z)) λ⟨x,y,I,K,M,z⟩=>(h.yc.n x y I K M).2 n D (e.symm.trans z)) (λ_ h=>h) lc lc lc,h.smb⟩;show zk w' (A.mb i) (vv s.kv n X i);unfold vv;split;{rename_i e;subst e;exact G};rename_i e;exact(h.mb i u).2.block (E.keep _ (h.mb i u).2.lt λz=>e (h.mbi i n u D z))
theorem zx.chg {m:Mv} {M:gF Chg} (h:zx w F A s) (H:n<4) (jG:A.mp n=ζ x) (fe:s.mv n=ζ m) (N:MX x n (A.pv n) (A.cv n) (A.ld n) m w) (u:But (ChB (A.mb n) x (A.cv n)) w w') (hm:zk w' (A.mb n) X)
  (h4:MX x n (A.pv n) cv' (A.ld n) {m with cs:=M} w') (E:∀b,cv'.ownBlock=ζ b->(A.cv n).ownBlock=ζ b\/w.heap.size<=b):
  zx w' (λb=>F b\/w.heap.size<=b) {A with cv:=qf A.cv n cv'} {s with kv:=vv s.kv n X,mv:=qf s.mv n (ζ {m with cs:=M})}:=by
 have lt:∀{b:dw} {o:Obj},w.heap[b]?=ζ o->b<w.heap.size:=λu=>(j5 u).1;have FZ:∀b,(A.cv n).ownBlock=ζ b->∃cur,w.heap[b]?=ζ (ao cur 87 (0,0)):=λb u=>jo.ty N.r u;have O:∀(b:dw) (cur:iO ah) (ty:aT),w.heap[b]?=ζ (ao cur ty (0,0))->ty≠135->ty≠87->w'.heap[b]?=w.heap[b]?:=λb cur ty t n1 n2=>u.keep b (lt t) (by
  rintro(e|e|e);{exact kz (h.mb n H).2 t e};{rw[e,N.b]at t;have e2:=xoi t;injection e2 with _ I;exact n1 I.symm}
  .obtain⟨c,E⟩:=FZ b e;rw[E]at t;have e2:=xoi t;injection e2 with _ I
   exact n2 I.symm)
 have pK:∀b,(∃U T,w.heap[b]?=ζ (Obj.map U T))->b≠A.mb n->w'.heap[b]?=w.heap[b]?:=λb ⟨U,T,t⟩ fG=>u.keep b (lt t) (by
  rintro(e|e|e);{exact fG e};{rw[e,N.b]at t;cases t}
  .obtain⟨c,E⟩:=FZ b e
   rw[E]at t;cases t)
 refine⟨⟨.inl h.cl.1,?_⟩,λi z=>⟨.inl (h.db i z).1,(O _ _ _ (h.db i z).2 (by decide) (by decide)).trans (h.db i z).2⟩,λi z=>⟨.inl (h.mb i z).1,?_⟩,h.mbi,λi z=>?_,h.mpi,λi j g z hj D G=>?_,h.yc.keep (λb cur ty t ht=>O b cur ty t (by rcases ht with rfl|rfl<;>decide) (by rcases ht with rfl|rfl<;>decide)) (λb t hw=>pK b t λe=>hw.elim (λe2=>h.smb n H (e.symm.trans e2)) λ⟨x,y,N,hy,hz,e2⟩=>(h.yc.n x y N hy hz).2 n H (e.symm.trans e2)) (λ_ h=>.inl h) lc lc lc,h.smb⟩;{exact(O _ _ _ h.cl.2 (by decide) (by decide)).trans h.cl.2};{show zk w' (A.mb i) (vv s.kv n X i);unfold vv;split;{rename_i e;subst e;exact hm};rename_i e;obtain⟨U,T,t,_⟩:=(h.mb i z).2;exact(h.mb i z).2.block (pK _ ⟨U,T,t⟩ λe2=>e (h.mbi i n z H e2))}
 .show mM w' _ _ i (qf s.mv n _ i);by_cases e:i=n
  .subst e;rw[show qf s.mv i (ζ {m with cs:=M}) i=ζ {m with cs:=M} by unfold qf;rw[fo lc]];have K:=h.mv i z;rw[fe]at K;obtain⟨g,Q,Y,z3,R,Z,z6,z7⟩:=K;rw[jG]at Q;cases Q;refine⟨x,jG,.inl Y,?_,?_,?_,λb u=>.inl (z6 b u),λb u=>?_⟩;{rw[h4.b];show _=ζ (ao (qw i (A.pv i) (qf A.cv i cv' i) (A.ld i) _) _ _);rw[show qf A.cv i cv' i=cv' by unfold qf;rw[fo lc]]};{exact R.block λb u=>by obtain⟨c,E⟩:=jo.ty R u;exact O b c _ E (by decide) (by decide)};{show sV w' (qf A.cv i cv' i) M;rw[show qf A.cv i cv' i=cv' by unfold qf;rw[fo lc]];exact h4.r}
   .have u:cv'.ownBlock=ζ b:=by
     have:qf A.cv i cv' i=cv':=by unfold qf;rw[fo lc]
     rw[<-this];exact u
    exact(E b u).imp (z7 b) id
  .rw[show qf s.mv n (ζ {m with cs:=M}) i=s.mv i by unfold qf;rw[eD e]];have V:qf A.cv n cv' i=A.cv i:=by unfold qf;rw[eD e]
   have D:mM w' (λb=>F b\/w.heap.size<=b) A i (s.mv i):=((h.mv i z).keep (λb cur o t=>u.keep b (lt t) (by
     rintro(e2|e2|e2);{exact kz (h.mb n H).2 t e2};{exact e (h.mpi i n b z H o (by rw[jG,e2]))}
     .obtain⟨c,E⟩:=FZ b e2;rw[E]at t;have I:=xoi t;injection I with _ e4;exact gY e4 (by decide))) (λb cur o t=>O b cur _ t (by decide) (by decide)) (λb cur o t=>u.keep b (lt t) (by
     rintro(e2|e2|e2);{exact kz (h.mb n H).2 t e2};{rw[e2,N.b]at t;have I:=xoi t;injection I with _ e4;exact gY e4 (by decide)}
     .exact e (h.cvi i n b z H o e2)))).mono λb u=>.inl u
   .cases kE:s.mv i with
    |none=>rw[kE]at D;exact⟨D.1,by show(qf A.cv n cv' i).ownBlock=ε;rw[V];exact D.2⟩
    |some mi=>rw[kE]at D;obtain⟨g,Q,Y,z3,R,Z,z6,z7⟩:=D;exact⟨g,Q,Y,by rw[z3];show _=ζ (ao (qw i (A.pv i) (qf A.cv n cv' i) (A.ld i) _) _ _);rw[V],R,by show sV w' (qf A.cv n cv' i) _;rw[V];exact Z,z6,λb u=>z7 b (by have u:(qf A.cv n cv' i).ownBlock=ζ b:=u;rw[V]at u;exact u)⟩
 .have D:(qf A.cv n cv' i).ownBlock=ζ g:=D;have G:(qf A.cv n cv' j).ownBlock=ζ g:=G;have ltc:∀i,i<4->∀b,(A.cv i).ownBlock=ζ b->b<w.heap.size:=λi z b u=>by
   have K:=h.mv i z;cases kE:s.mv i with
   |none=>rw[kE]at K;rw[K.2]at u;cases u
   |some mi=>rw[kE]at K;obtain⟨q,Q,Y,z3,R,Z,z6,z7⟩:=K;exact jo.lt Z u
  unfold qf at D G;by_cases e1:i=n;{by_cases e2:j=n;{omega};rw[fo e1]at D;rw[eD e2]at G;rcases E g D with h3|h3;{exact gY (h.cvi n j g H hj h3 G) λe=>e2 e.symm};have:=ltc j hj g G;omega};rw[eD e1]at D;by_cases e2:j=n;{rw[fo e2]at G;rcases E g G with h3|h3;{exact gY (h.cvi i n g z H D h3) e1};have:=ltc i z g D;omega};rw[eD e2]at G;exact h.cvi i j g z hj D G
end
namespace Ph
open Go.Conc Go.ConcN Go.RowKit Go.Maps Go.Conc.Lib Go Sim
def kD (w:aa) (F:dw->Prop) (A:PA) (v:ah) (s':St) (e:bR) (w':aa):Prop:=e=ψ v/\∃A':PA,A'.cl=A.cl/\zx w' (λb=>F b\/w.heap.size<=b) A' s'/\But F w w'
def chE (s:St) (k v:bn) (g:gI):gJ:=if jN k.data.toList then(if pJ (s.mv (q9 k.data.toList))then(if 12<v.data.toList.length then 3 else 5)else rV (s.kv (q9 k.data.toList)) k.data.toList v.data.toList g)else 2
def chS (s:St) (k v:bn) (g:gI):St:=if jN k.data.toList&&!pJ (s.mv (q9 k.data.toList))then{s with kv:=vv s.kv (q9 k.data.toList) (chL (s.kv (q9 k.data.toList)) k.data.toList v.data.toList g),mv:=qf s.mv (q9 k.data.toList) ((s.mv (q9 k.data.toList)).map λm=>{m with cs:=csL (s.kv (q9 k.data.toList)) m.cs k v g})}else s
section
variable {w w':aa} {F:dw->Prop} {A:PA} {s:St}
theorem kD.idle {v:ah} (h:zx w F A s) (t:ay w.heap.size w w'):kD w F A v s (ψ v) w':=⟨lc,A,lc,(h.below t).mono λ_ h=>.inl h,il t⟩
theorem Xh (h:zx w F A s) (K:∀i,i<4->(s.kv i).length<=16777216) (V:∀i,i<4->∀m,s.mv i=ζ m->m.cs.length<=1073741820) (k v:bn) (g:gI) (H:k.size<=aL):
  aD prog 40 #[ξ (ζ ⟨A.cl,0,ε⟩),Θ #[Γ k,Γ v,χ g]] w (kD w F A (σ υ (chE s k v g)) (chS s k v g)):=by
 cases hk:jN k.data.toList;{refine(qwv k v g hk H).mono λe w' ⟨u,y⟩=>?_;unfold chE chS;rw[hk,u];exact .idle h y}
 .have t:=Jq k.data.toList;obtain⟨n,D⟩:∃n,q9 k.data.toList=n:=⟨_,lc⟩
  unfold chE chS;rw[D]at t;rw[hk,D];have z:=h.part n t;have G:=h.mv n t;cases fe:s.mv n with
  |none=>
   rw[fe]at G;rw[G.1]at z;refine(qww k v g n t hk D H (K n t) z).mono λe w' ⟨u,y,E⟩=>?_;have I:=(h.put t E y).mono (F':=λb=>F b\/w.heap.size<=b) λ_ h=>.inl h;refine⟨u,A,lc,?_,E.mono λb e=>e▸(h.mb n t).1⟩;have e:qf s.mv n (Option.map (λm:Mv=>{m with cs:=csL (s.kv n) m.cs k v g}) ε)=s.mv:=by funext i;unfold qf;split;{rename_i e;rw[e,fe];rfl};rfl
   show zx w' _ A {s with kv:=_,mv:=qf s.mv n (Option.map (λm:Mv=>{m with cs:=csL (s.kv n) m.cs k v g}) ε)};rw[e];exact I
  |some m=>
   rw[fe]at G;obtain⟨x,Q,Z,z3,z4,R,z6,z7⟩:=G;rw[Q]at z;have M:MX x n (A.pv n) (A.cv n) (A.ld n) m w:=⟨z3,R⟩
   cases gT:m.sealed
   .have Y:(A.cv n).ownBlock≠ζ A.cl:=λe=>by obtain⟨c,O⟩:=jo.ty R e;rw[h.cl.2]at O;have T:=xoi O;injection T with _ U;exact gY U (by decide)
    refine(qt2 k v g n t hk D H (K n t) z M gT (V n t m fe) Y).mono λe w' ⟨u,y,⟨cv',E,I⟩,N⟩=>?_;rw[show pJ (ζ m)=θ from gT];refine⟨u,{A with cv:=qf A.cv n cv'},lc,h.chg t Q fe M N y E I,N.mono λb e=>?_⟩;rcases e with e|e|e;{exact e▸(h.mb n t).1};{exact e▸Z};exact z7 b e
   .refine(qpx k v g n t hk D H (K n t) z M gT).mono λe w' ⟨u,y⟩=>?_;rw[show pJ (ζ m)=η from gT,u];exact .idle h y
theorem jg4 (h:zx w F A s) (u:∀i,i<4->(s.kv i).length<=16777216) (y:∀i,i<4->∀m,s.mv i=ζ m->m.cs.length<=1073741820) (k v:bn) (E:k.size<=aL):
  aD prog 18 #[ξ (ζ ⟨A.cl,0,ε⟩),Γ k,Γ v] w (kD w F A (σ υ (chE s k v θ)) (chS s k v θ)):=by
 have D:=Xh h u y k v θ E;generalize chS s k v θ=s' at*;generalize chE s k v θ=c at*;clear h u y;go_enter func18,ntmps18;go_wp2_with (go_at_call 40;refine D.mono ?_;rintro e w' ⟨rfl,t⟩;have z:=Hd t;clear t)
 go_ret;exact⟨lc,z.o⟩
theorem q2c (h:zx w F A s) (u:∀i,i<4->(s.kv i).length<=16777216) (y:∀i,i<4->∀m,s.mv i=ζ m->m.cs.length<=1073741820) (k:bn) (E:k.size<=aL):
  aD prog 25 #[ξ (ζ ⟨A.cl,0,ε⟩),Γ k] w (kD w F A (σ υ (chE s k ⟨#[]⟩ η)) (chS s k ⟨#[]⟩ η)):=by
 have D:=Xh h u y k ⟨#[]⟩ η E;generalize chS s k ⟨#[]⟩ η=s' at*;generalize chE s k ⟨#[]⟩ η=c at*;clear h u y;go_enter func25,ntmps25;go_wp2_with (go_at_call 40;refine D.mono ?_;rintro e w' ⟨rfl,t⟩;have z:=Hd t;clear t)
 go_ret;exact⟨lc,z.o⟩
end
end Ph
open Go.RowKit Go.Maps
section
variable {w w':aa} {F F':dw->Prop} {A:PA} {s:St} {n:dw}
theorem zx.turn (h:zx w F A s) (u:PA) (s':St) (G:But (· =A.cl) w w') (V:w'.heap[A.cl]?=ζ (.cells (zm u s') 83 (0,0))) (M:u.cl=A.cl) (H:u.db=A.db) (z:u.mb=A.mb) (I:u.sm=A.sm/\u.sP=A.sP) (O:s'.kv=s.kv) (Q:s'.sg=s.sg)
  (R:∀i,i<4->(∀(b:dw) (cur:iO ah) (ty:aT),w.heap[b]?=ζ (ao cur ty (0,0))->ty≠83->w'.heap[b]?=w.heap[b]?)->mM w' F' u i (s'.mv i)) (hF:∀b,F b->F' b)
  (U:∀i j g,i<4->j<4->u.mp i=ζ g->u.mp j=ζ g->i=j) (Z:∀i j g,i<4->j<4->(u.cv i).ownBlock=ζ g->(u.cv j).ownBlock=ζ g->i=j):zx w' F' u s':=by
 have lt:∀{b:dw} {o:Obj},w.heap[b]?=ζ o->b<w.heap.size:=λG=>(j5 G).1;have K:∀(b:dw) (cur:iO ah) (ty:aT),w.heap[b]?=ζ (ao cur ty (0,0))->ty≠83->w'.heap[b]?=w.heap[b]?:=λb cur ty t Y=>G.keep b (lt t) λe=>by rw[e,h.cl.2]at t;have H:=xoi t;injection H with _ z;exact Y z.symm
 have N:∀b,(∃E D,w.heap[b]?=ζ (Obj.map E D))->w'.heap[b]?=w.heap[b]?:=λb ⟨E,D,t⟩=>G.keep b (lt t) λe=>by rw[e,h.cl.2]at t;cases t
 refine⟨⟨hF _ (M▸h.cl.1),M▸V⟩,λi y=>?_,λi y=>?_,by rw[z];exact h.mbi,λi y=>R i y K,U,Z,?_,by rw[z,I.1];exact h.smb⟩;{rw[H,z];exact⟨hF _ (h.db i y).1,(K _ _ _ (h.db i y).2 (by decide)).trans (h.db i y).2⟩};{rw[z,O];obtain⟨E,D,t,_⟩:=(h.mb i y).2;exact⟨hF _ (h.mb i y).1,(h.mb i y).2.block (N _ ⟨E,D,t⟩)⟩};rw[Q];exact h.yc.keep (λb cur ty t T=>K b cur ty t (by rcases T with rfl|rfl<;>decide)) (λb t _=>N b t) hF I.1 I.2 z
theorem zx.drop (h:zx w F A s) (I:n<4):zx (w.setCell ⟨A.cl,1+n*3+2,ε⟩ (.pointer ε)) F {A with mp:=qf A.mp n ε,cv:=qf A.cv n (Δ ε 0 0)} {s with mv:=qf s.mv n ε}/\But F w (w.setCell ⟨A.cl,1+n*3+2,ε⟩ (.pointer ε)):=by
 have K:=xhs w A.cl (1+n*3+2) _ _ (.pointer ε) h.cl.2;have y:But (· =A.cl) w (w.setCell ⟨A.cl,1+n*3+2,ε⟩ (.pointer ε)):=But.setCell (B:=(· =A.cl)) (But.refl _ _) lc _ _;refine⟨h.turn _ _ y ?_ lc lc lc ⟨lc,lc⟩ lc lc (λi G no=>?_) (λ_ h=>h) (λi j g G H t u=>?_) (λi j g G H t u=>?_),y.mono λb e=>e▸h.cl.1⟩
 .rw[K];match n,I with
  |0,_|1,_|2,_|3,_=>rfl
 .show mM _ F _ i (qf s.mv n ε i);by_cases e:i=n;{subst e;rw[qj];exact⟨qj ..,by show(qf A.cv i (Δ ε 0 0) i).ownBlock=ε;rw[qj];rfl⟩}
  .rw[qh _ _ e];have E:=(h.mv i G).keep (w':=w.setCell ⟨A.cl,1+n*3+2,ε⟩ (.pointer ε)) (λb c _ y=>no b c _ y (by decide)) (λb c _ y=>no b c _ y (by decide)) (λb c _ y=>no b c _ y (by decide));have D:qf A.mp n ε i=A.mp i:=qh _ _ e;have z:qf A.cv n (Δ ε 0 0) i=A.cv i:=qh _ _ e;cases hm:s.mv i with
   |none=>rw[hm]at E;exact⟨D.trans E.1,by show(qf A.cv n (Δ ε 0 0) i).ownBlock=ε;rw[z];exact E.2⟩
   |some m=>rw[hm]at E;obtain⟨g,M,N,O,Q,R,T,U⟩:=E;refine⟨g,D.trans M,N,?_,Q,?_,T,?_⟩;{rw[O];show _=ζ (ao (qw i (A.pv i) (qf A.cv n (Δ ε 0 0) i) (A.ld i) m) _ _);rw[z]};{show sV _ (qf A.cv n (Δ ε 0 0) i) m.cs;rw[z];exact R};intro b y;have y:(qf A.cv n (Δ ε 0 0) i).ownBlock=ζ b:=y;rw[z]at y;exact U b y
 .have t:qf A.mp n ε i=ζ g:=t;have u:qf A.mp n ε j=ζ g:=u;by_cases D:i=n;{subst D;rw[qj]at t;cases t};by_cases z:j=n;{subst z;rw[qj]at u;cases u};rw[qh _ _ D]at t;rw[qh _ _ z]at u;exact h.mpi i j g G H t u
 .have t:(qf A.cv n (Δ ε 0 0) i).ownBlock=ζ g:=t;have u:(qf A.cv n (Δ ε 0 0) j).ownBlock=ζ g:=u;by_cases D:i=n;{subst D;rw[qj]at t;cases t};by_cases z:j=n;{subst z;rw[qj]at u;cases u};rw[qh _ _ D]at t;rw[qh _ _ z]at u;exact h.cvi i j g G H t u
def movE (s:St) (k:gJ):gJ:=if k<0\/3<k then 8 else match s.mv k.toNat with
 |none=>11
 |some _=>0
theorem XT (k:gJ) (y:k<0\/3<k) (z: -9223372036854775808<=k/\k<=9223372036854775807) (cl:dw):aD prog 60 #[ξ (ζ ⟨cl,0,ε⟩),σ υ k] w λe w'=>e=ψ (ο #[.pointer ε,σ υ 8])/\w'=w:=by rcases cn k 0 with h2|h2;{have t:ν (k<0)=η:=xdt h2;go_enter func60,ntmps60;go_wp2;go_ret2;exact⟨lc,lc⟩};have t:ν (k<0)=θ:=xdf (by omega);have u:ν (4<=k)=η:=xdt (by omega);go_enter func60,ntmps60;go_wp2;go_ret2;exact⟨lc,lc⟩
theorem Nc (h:zx w F A s) (u:n<4):aD prog 60 #[ξ (ζ ⟨A.cl,0,ε⟩),σ υ n] w λe w'=>(match s.mv n with
  |none=>e=ψ (ο #[.pointer ε,σ υ 11])
  |some _=>e=ψ (ο #[ξ (ζ ⟨A.cl,1+n*3,ε⟩),σ υ 0]))/\w'=w:=by
 have E:((n:gJ)<4):=by omega
 have z:ν ((n:gJ)<0)=θ:=xdf (by omega);have D:ν ((4:gJ)<=n)=θ:=xdf (by omega);have c:=(h.part n u).v;have t:=h.mv n u;cases fe:s.mv n with
 |none=>rw[fe]at t;rw[t.1]at c;have c:w.cell? ⟨A.cl,1+n*3+2,ε⟩=ζ (.pointer ε):=c;clear t h;go_enter func60,ntmps60;go_wp2;go_ret2;exact⟨lc,lc⟩
 |some m=>rw[fe]at t;obtain⟨x,y,_⟩:=t;rw[y]at c;have c:w.cell? ⟨A.cl,1+n*3+2,ε⟩=ζ (ξ (ζ ⟨x,0,ε⟩)):=c;clear y h;go_enter func60,ntmps60;go_wp2;go_ret2;exact⟨lc,lc⟩
end
namespace Ph
open Go.Conc Go.ConcN Go.RowKit Go.Maps Go.Conc.Lib Go Sim
def abE (s:St) (k:gJ):gJ:=if k<0\/3<k then 8 else match s.mv k.toNat with
 |none=>11
 |some m=>if m.sealed then 12 else 0
def abS (s:St) (k:gJ):St:=if k<0\/3<k then s else match s.mv k.toNat with
 |none=>s
 |some m=>if m.sealed then s else{s with mv:=qf s.mv k.toNat ε}
section
variable {w w':aa} {F:dw->Prop} {A:PA} {s:St}
theorem q7p (h:zx w F A s) (k:gJ) (K: -9223372036854775808<=k/\k<=9223372036854775807):aD prog 33 #[ξ (ζ ⟨A.cl,0,ε⟩),σ υ k] w (kD w F A (σ υ (abE s k)) (abS s k)):=by
 by_cases hk:k<0\/3<k
 .have HE:Hid (abE s k=8/\abS s k=s):=Hd ⟨by unfold abE;rw[fo hk],by unfold abS;rw[fo hk]⟩;have H:=Hd h;rw[HE.1,HE.2];clear h;go_enter func33,ntmps33;go_wp2_with (go_at_call 60;refine(XT k hk K A.cl).mono ?_;rintro e w' ⟨rfl,rfl⟩)
  go_ret;exact .idle H.o (qy _ _)
 .obtain⟨n,rfl⟩:∃n:dw,k=n:=⟨k.toNat,by omega⟩
  have t:n<4:=by omega
  have u:=Nc h t;have z:=h.mv n t;have y:=(h.part n t).v;have D:=h.cells (1+n*3+2) _ (Jw A s n t).2.2;cases fe:s.mv n with
  |none=>
   have HE:Hid (abE s (n:gJ)=11/\abS s (n:gJ)=s):=Hd ⟨by unfold abE;rw[eD hk,bi,fe],by unfold abS;rw[eD hk,bi,fe]⟩;have H:=Hd h;rw[HE.1,HE.2];rw[fe]at u;clear h z y D fe hk;go_enter func33,ntmps33;go_wp2_with (go_at_call 60;refine u.mono ?_;rintro e w' ⟨rfl,rfl⟩)
   go_ret;exact .idle H.o (qy _ _)
  |some m=>
   rw[fe]at z u;obtain⟨x,G,M,I,_⟩:=z;rw[G]at y;replace y:w.cell? ⟨A.cl,1+n*3+2,ε⟩=ζ (ξ (ζ ⟨x,0,ε⟩)):=y;have N:=D.2;have E:w.cell? ⟨x,12,ε⟩=ζ (χ m.sealed):=by simp[ae,I,qw]
   have HE:Hid (abE s (n:gJ)=(if m.sealed then 12 else 0)/\abS s (n:gJ)=if m.sealed then s else{s with mv:=qf s.mv n ε}):=Hd ⟨by unfold abE;rw[eD hk,bi,fe],by unfold abS;rw[eD hk,bi,fe]⟩;have H:=Hd h;rw[HE.1,HE.2];clear h D fe hk G M I;cases hs:m.sealed
   .rw[hs]at E;rw[eD (by decide),eD (by decide)];clear hs;go_enter func33,ntmps33;go_wp2_with (go_at_call 60;refine u.mono ?_;rintro e w' ⟨rfl,rfl⟩)
    go_ret;exact⟨lc,{A with mp:=qf A.mp n ε,cv:=qf A.cv n (Δ ε 0 0)},lc,(H.drop t).1.mono λ_ h=>.inl h,(H.drop t).2⟩
   .rw[hs]at E;rw[fo lc,fo lc];clear hs;go_enter func33,ntmps33;go_wp2_with (go_at_call 60;refine u.mono ?_;rintro e w' ⟨rfl,rfl⟩)
    go_ret;exact .idle H.o (qy _ _)
end
end Ph
end Go.Proofs.YtkpekiajdlolnabGreat
