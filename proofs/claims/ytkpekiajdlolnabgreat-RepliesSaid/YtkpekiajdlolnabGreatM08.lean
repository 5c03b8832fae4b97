/- PROVED: part 8 of the claim's ground. Conditions: those that each theorem names. -/
import Derived.Test.YtkpekiajdlolnabGreatM06
import Derived.Test.YtkpekiajdlolnabGreatM07
import Derived.BigQuiet
import Derived.Deep.Cut
import Derived.Test.YtkpekiajdlolnabGreatM04
set_option linter.unusedVariables false
set_option linter.unusedSimpArgs false
set_option maxRecDepth 100000
set_option maxHeartbeats 16000000
open _root_ renaming rfl→lc,ByteArray→bn,if_neg→dw,if_pos→eD,Int→fo,Nat→gF,False→gI,List→gJ,congrArg→gU,absurd→gY,Bool→iO,Option→jb,Array→jC
variable{N a b h:gF} {cv' pv':Go.Value} {f:Go.Proofs.YtkpekiajdlolnabGreat.Fr} {m':Go.Proofs.YtkpekiajdlolnabGreat.Mv} {u:bn} {w0 w1 w2:Go.World}
open Go.Proofs.Tryz
open Go.World renaming cell?→aa,ownsRow_nil→aj,frozen?→aQ
open And renaming intro→ac
open Go.ByteArray renaming toList_eq→ae
open Go renaming World→ah,Value→al,Calls→ao,heap_alloc_new→au,wp_region_still_tail→aA,heap_alloc_old→aE,wpList_append_own→aH,run_convert_bytes_back→aL,wpStill_nil→aY,maxLen→bj,TypeId→bD,undef→bO
open List renaming getElem?_eq_some_iff→ai,mem_append→am,mem_of_getElem?→aq,getElem?_eq_getElem→ay,length_append→az,take_succ_cons→aB,drop_succ_cons→aC,getElem?_set→aF,length_drop→aI,append_nil→aM,take_zero→aO,drop_zero→aP,length_take→aW,length_set→bg,mem_cons→bB
open Option renaming bind_some→aw
open Go.Addr renaming add_lit→ax
open Nat renaming zero_add→aD,le_of_lt→aK,le_add_right→aX
open Int renaming toNat_natCast→aG
open Bool renaming and_eq_true→aJ,false_eq_true→aS,and_false→bm
open Go.Value renaming int→σ,string→Γ,tuple→ο,slice→Δ,bool→χ,agg→Θ,pointer→ξ
open Go.IntKind renaming i64→υ,u8→Ξ
open Go.Obj renaming cells→ω
open Option renaming some→ζ,none→ε
open Go.Ending renaming returned→ψ
open Bool renaming false→θ,true→η
open Decidable renaming decide→ν
open Go.Item renaming inRegion→π
namespace Go.Proofs.YtkpekiajdlolnabGreat
namespace Ph
open Go.Conc Go.ConcN Go.RowKit Go.Maps Go.Conc.Lib Go Sim
section
variable {w w':ah} {F:gF->Prop} {B:MA} {s:St}
structure OfW (w0:ah) (F:gF->Prop) (B:MA) (s:St) (f:Fr) (fb:gF) (w:ah):Prop where
 m:ku w F B s
 b:But (λ_=>gI) w0 w
 fr:w.heap[fb]?=ζ (ω #[σ υ f.kind,σ υ f.qb,σ υ f.id,σ υ f.n,sv f.load] 182 (0,0))
theorem OfW.idle {fb:gF} (d:OfW w0 F B s f fb w) (i:But (λ_=>gI) w w'):OfW w0 F B s f fb w':=⟨d.m.idle i,d.b.trans i,(i.keep _ (j5 d.fr).1 id).trans d.fr⟩
theorem OfW.drewN {fb:gF} (d:OfW w0 F B s f fb w) (n:gF):OfW w0 F B s f fb (w.drewN n):=d.idle (But.drewN (But.refl _ _) n)
theorem OfW.alloc {fb:gF} (d:OfW w0 F B s f fb w) (o:Obj):OfW w0 F B s f fb (w.alloc o):=d.idle (il ((qy _ _).alloc (jg _) _))
theorem OfW.of {ld:bn} (p:ku w0 F B s) (r:But (λ_=>gI) w0 w) (i:ld.data.toList=f.load):OfW w0 F B s f w.heap.size (w.alloc (ω #[σ υ f.kind,σ υ f.qb,σ υ f.id,σ υ f.n,Γ ld] 182)):=by have d:=r.trans (il (B:=λ_=>gI) ((qy w.heap.size w).alloc (jg _) (ω #[σ υ f.kind,σ υ f.qb,σ υ f.id,σ υ f.n,Γ ld] 182)));exact⟨p.idle d,d,by rw[au,qx i]⟩
theorem OfW.cells {w0:ah} {fb:gF} {f:Fr} {ld:bn} (d:OfW w0 F B s f fb w) (p:ld.data.toList=f.load):w.cell? ⟨fb,0,ε⟩=ζ (σ υ f.kind)/\w.cell? ⟨fb,1,ε⟩=ζ (σ υ f.qb)/\w.cell? ⟨fb,2,ε⟩=ζ (σ υ f.id)/\w.cell? ⟨fb,3,ε⟩=ζ (σ υ f.n)/\w.cell? ⟨fb,4,ε⟩=ζ (Γ ld)/\w.cell? ⟨B.ml,2,ε⟩=ζ B.sg:=by have i:=d.fr;rw[qx p]at i;exact⟨by simp[aa,i],by simp[aa,i],by simp[aa,i],by simp[aa,i],by simp[aa,i],(d.m.cells 2 _ lc).1⟩
theorem jU.idleB {v:al} (h:ku w F B s) (d:But (λ_=>gI) w w'):jU w F B v s (ψ v) w':=⟨lc,B,lc,(h.idle d).mono λ_ h=>.inl h,d.mono λ_ x=>x.elim⟩
theorem OfW.same {fb:gF} {v:al} {b:Bs} (d:OfW w0 F B s f fb w) (r:ku w0 F B s) (i:But (λ_=>gI) w w2) (e:dlF f (s.sg h f.qb)=(b,s.sg h f.qb)) (p:v=sv b):
  jU w0 F B (sv (dlF f (s.sg h f.qb)).1) {s with sg:=vz s.sg h f.qb (dlF f (s.sg h f.qb)).2} (ψ v) w2:=by
 rw[e,p];simp only[MV lc];exact .idleB r (d.b.trans i)
theorem OfW.Q9 {fb:gF} {v:al} {b:Bs} (d:OfW w0 F B s f fb w) (r:ku w0 F B s) (i:But (λ_=>gI) w w2) (e:dlF f (s.sg h f.qb)=(b,s.sg h f.qb)) (p:v=ο #[sv b,σ υ 0]):
  jU w0 F B (ο #[sv (dlF f (s.sg h f.qb)).1,σ υ 0]) {s with sg:=vz s.sg h f.qb (dlF f (s.sg h f.qb)).2} (ψ v) w2:=by
 rw[e,p];simp only[MV lc];exact .idleB r (d.b.trans i)
theorem jU.lift {v:al} {s':St} {e:Ending} (d:But (λ_=>gI) w0 w) (h:jU w F B v s' e w'):jU w0 F B v s' e w':=by obtain⟨p,i,r,t,z⟩:=h;have:=d.size;exact⟨p,i,r,t.mono λb h=>h.imp id λh=>by omega,(d.mono λ_ x=>x.elim).trans z⟩
theorem q2t {α:Type} (f:gF->gF->jb α) (h k:gF) (a b:jb α):vz (vz f h k a) h k b=vz f h k b:=by funext x y;by_cases e:x=h/\y=k;{obtain⟨rfl,rfl⟩:=e;rw[xq,xq]};rw[jy e,jy e,jy e]
structure RwW (w0:ah) (F:gF->Prop) (B:MA) (s:St) (f:Fr) (fb j:gF) (e:RSg) (x:Sg) (v:al) (w:ah):Prop where
 m:ku w (λb=>F b\/w0.heap.size<=b) {B with sl:=B.sl.set j ⟨e.h,e.k,x,v⟩} {s with sg:=vz s.sg e.h e.k (ζ x)}
 b:But F w0 w
 fr:w.heap[fb]?=ζ (ω #[σ υ f.kind,σ υ f.qb,σ υ f.id,σ υ f.n,sv f.load] 182 (0,0))
 lo:w0.heap.size<=fb
section
variable {w0:ah} {f:Fr} {fb j g cp:gF} {e:RSg} {x x':Sg} {v v' u:al}
theorem RwW.of (d:OfW w0 F B s f fb w) (i:B.sl[j]?=ζ e) (z:w0.heap.size<=fb):RwW w0 F B s f fb j e e.x e.v w:=by
 have p:B.sl.set j e=B.sl:=by obtain⟨t,rfl⟩:=ai.1 i;exact List.set_getElem_self t
 have r:vz s.sg e.h e.k (ζ e.x)=s.sg:=MV (d.m.yc.e e (aq i)).2.2.1;refine⟨?_,d.b.mono λ_ x=>x.elim,d.fr,z⟩;show ku w _ {B with sl:=B.sl.set j e} {s with sg:=vz s.sg e.h e.k (ζ e.x)};rw[p,r];exact d.m.mono λb h=>.inl h
theorem RwW.idle (r:RwW w0 F B s f fb j e x v w) (d:But (λ_=>gI) w w'):RwW w0 F B s f fb j e x v w':=⟨r.m.idle d,r.b.trans (d.mono λ_ x=>x.elim),(d.keep _ (j5 r.fr).1 id).trans r.fr,r.lo⟩
theorem RwW.row (r:RwW w0 F B s f fb j e x v w) (d:j<B.sl.length):yx w 0 v x.kv/\∀b,v.ownBlock=ζ b->F b\/w0.heap.size<=b:=by have i:(⟨e.h,e.k,x,v⟩:RSg)∈B.sl.set j ⟨e.h,e.k,x,v⟩:=List.mem_iff_getElem?.2 ⟨j,by rw[aF,eD lc,eD d]⟩;exact(r.m.yc.e _ i).2.2.2
theorem RwW.cells {ld:bn} (r:RwW w0 F B s f fb j e x v w) (I:B.sg=Δ (ζ ⟨g,0,ε⟩) B.sl.length cp) (H:j<B.sl.length) (p:ld.data.toList=f.load):(w.cell? ⟨g,j*6+2,ε⟩=ζ (σ υ x.id)/\w.cell? ⟨g,j*6+3,ε⟩=ζ (σ υ x.next)/\w.cell? ⟨g,j*6+4,ε⟩=ζ v/\w.cell? ⟨g,j*6+5,ε⟩=ζ (χ x.done)/\∀i,w.frozen? ⟨g,i,ε⟩=θ)/\
  w.cell? ⟨fb,0,ε⟩=ζ (σ υ f.kind)/\w.cell? ⟨fb,1,ε⟩=ζ (σ υ f.qb)/\w.cell? ⟨fb,2,ε⟩=ζ (σ υ f.id)/\w.cell? ⟨fb,3,ε⟩=ζ (σ υ f.n)/\w.cell? ⟨fb,4,ε⟩=ζ (Γ ld):=by
 obtain⟨_,_,_,t,z,C,D,E⟩:=r.m.yc.Aa (j:=j) I (show(B.sl.set j ⟨e.h,e.k,x,v⟩)[j]?=ζ ⟨e.h,e.k,x,v⟩ by rw[aF,eD lc,eD H]);have d:=r.fr;rw[qx p]at d;exact⟨⟨t,z,C,D,E⟩,by simp[aa,d],by simp[aa,d],by simp[aa,d],by simp[aa,d],by simp[aa,d]⟩
theorem RwW.set {i:gF} (r:RwW w0 F B s f fb j e x v w) (M:B.sg=Δ (ζ ⟨g,0,ε⟩) B.sl.length cp) (J:j<B.sl.length) (H:F g/\g<w0.heap.size) (I:i<6) (L:(rsC ⟨e.h,e.k,x,v⟩).set i u=rsC ⟨e.h,e.k,x',v'⟩) (C:yx w 0 v' x'.kv) (z:∀b,v'.ownBlock=ζ b->F b\/w0.heap.size<=b):
  RwW w0 F B s f fb j e x' v' (w.setCell ⟨g,j*6+i,ε⟩ u):=by
 have E:(B.sl.set j ⟨e.h,e.k,x,v⟩)[j]?=ζ ⟨e.h,e.k,x,v⟩:=by rw[aF,eD lc,eD J]
 obtain⟨d,D⟩:=r.m.GL (e':=⟨e.h,e.k,x',v'⟩) (i:=i) (u:=u) (j:=j) (g:=g) (cp:=cp) (λ_ h=>h) (by show B.sg=.slice _ (B.sl.set j _).length cp;rw[bg];exact M) E I L lc lc C z;have O:=r.lo;refine⟨?_,r.b.trans (D.mono λb e=>e▸H.1),(xho _ _ _ _ (show fb≠g by omega)).trans r.fr,r.lo⟩;have p:(B.sl.set j ⟨e.h,e.k,x,v⟩).set j ⟨e.h,e.k,x',v'⟩=B.sl.set j ⟨e.h,e.k,x',v'⟩:=List.set_set ..;have t:=q2t s.sg e.h e.k (ζ x) (ζ x');have d:ku (w.setCell ⟨g,j*6+i,ε⟩ u) (λb=>F b\/w0.heap.size<=b) {B with sl:=(B.sl.set j ⟨e.h,e.k,x,v⟩).set j ⟨e.h,e.k,x',v'⟩} {s with sg:=vz (vz s.sg e.h e.k (ζ x)) e.h e.k (ζ x')}:=d;rwa [p,t]at d
theorem RwW.fin (r:RwW w0 F B s f fb j e x v w) (i:But (λ_=>gI) w w') (p:u=v'):jU w0 F B v' {s with sg:=vz s.sg e.h e.k (ζ x)} (ψ u) w':=by have d:=r.idle i;exact⟨by rw[p],_,by rfl,d.m,d.b⟩
end
theorem OfW.Ru {w3:ah} {ld:bn} {fb:gF} {e:RSg} {g cap H:gF} (d:OfW w0 F B s f fb w) (J:ld.data.toList=f.load) (t:But (λ_=>gI) w w1) (E:w1.grownBy w3 B.sg.ownBlock) (V:w3.ownsRow 0 191 6 (Δ (ζ ⟨g,0,ε⟩) (B.sl.length+1) cap) (B.sl.length+1) (vk B.sl++rsC e)) (Y:B.sg.ownBlock=ζ g\/g=H) (R:w1.heap.size=H)
  (S:e.h<4) (T:e.k<4) (U:s.sg e.h e.k=ε) (X:e.v=Δ ε 0 0) (kF:e.x.kv=[]):
  (w3.cell? ⟨B.ml,2,ε⟩=ζ B.sg/\w3.frozen? ⟨B.ml,2,ε⟩=θ)/\Hid (∃z,z.ml=B.ml/\ku (w3.setCell ⟨B.ml,2,ε⟩ (Δ (ζ ⟨g,0,ε⟩) (B.sl.length+1) cap)) (λb=>F b\/w0.heap.size<=b) z {s with sg:=vz s.sg e.h e.k (ζ e.x)}/\But F w0 (w3.setCell ⟨B.ml,2,ε⟩ (Δ (ζ ⟨g,0,ε⟩) (B.sl.length+1) cap)))/\
   (w3.setCell ⟨B.ml,2,ε⟩ (Δ (ζ ⟨g,0,ε⟩) (B.sl.length+1) cap)).cell? ⟨fb,0,ε⟩=ζ (σ υ f.kind)/\(w3.setCell ⟨B.ml,2,ε⟩ (Δ (ζ ⟨g,0,ε⟩) (B.sl.length+1) cap)).cell? ⟨fb,1,ε⟩=ζ (σ υ f.qb)/\(w3.setCell ⟨B.ml,2,ε⟩ (Δ (ζ ⟨g,0,ε⟩) (B.sl.length+1) cap)).cell? ⟨fb,2,ε⟩=ζ (σ υ f.id)/\(w3.setCell ⟨B.ml,2,ε⟩ (Δ (ζ ⟨g,0,ε⟩) (B.sl.length+1) cap)).cell? ⟨fb,3,ε⟩=ζ (σ υ f.n)/\(w3.setCell ⟨B.ml,2,ε⟩ (Δ (ζ ⟨g,0,ε⟩) (B.sl.length+1) cap)).cell? ⟨fb,4,ε⟩=ζ (Γ ld):=by
 obtain⟨L,M,O,P⟩:=d.m.Ru t E V Y R S T U X kF;have I:=d.b.size;have p:=d.fr;rw[qx J]at p;have C:=(j5 p).1;have n1:fb≠B.ml:=λe=>by have:=d.m.ml.2;rw[<-e,p]at this;exact gY (jc this) (by decide)
 have n2:ζ fb≠B.sg.ownBlock:=λe=>by obtain⟨c,D⟩:=xh d.m.yc.r e.symm;rw[p]at D;exact gY (jc D) (by decide)
 have i:=(xho w3 ⟨B.ml,2,ε⟩ fb (Δ (ζ ⟨g,0,ε⟩) (B.sl.length+1) cap) n1).trans ((E.block fb (xll C t.size) n2).trans ((t.keep fb C id).trans p));exact⟨⟨L,M⟩,Hd ⟨_,by rfl,O.mono λb h=>h.imp id λh=>xlt I h,(d.b.mono λ_ x=>x.elim).trans P⟩,by simp[aa,i],by simp[aa,i],by simp[aa,i],by simp[aa,i],by simp[aa,i]⟩
theorem VG (f:Fr) (d:f.Ok) (k:gF) (i:k<256) (ld:bn) (W:ah):ao prog 107 #[Θ #[σ υ f.kind,σ υ f.qb,σ υ f.id,σ υ f.n,Γ ld],σ υ k] W λe w'=>e=ψ (sv (kK f k))/\But (λ_=>gI) W w':=
 q2h f.kind f.qb f.id f.n k ld i d.qb (by have:=d.id;omega) (by have:=d.n;omega)
def St6 (b h k i:gF) (w:ah):Prop:=w.cell? ⟨b,0,ε⟩=ζ (σ υ h)/\w.cell? ⟨b,1,ε⟩=ζ (σ υ k)/\w.cell? ⟨b,2,ε⟩=ζ (σ υ i)/\w.cell? ⟨b,3,ε⟩=ζ (σ υ 1)/\w.cell? ⟨b,4,ε⟩=ζ (Δ ε 0 0)/\w.cell? ⟨b,5,ε⟩=ζ (χ θ)
theorem st6 {V X:ah} {k i:gF} (e:V.alloc (ω #[σ υ h,σ υ k,σ υ i,σ υ 1,Δ ε 0 0,χ θ] 191)=X):St6 V.heap.size h k i X:=by subst e;refine⟨?_,?_,?_,?_,?_,?_⟩<;>go_simp
theorem q18 (p:ku w F B s) (h:gF) (hh:h<4) (f:Fr) (hf:f.Ok) (qE:f.qb<4) (hk:f.kind=1) (ld:bn) (fK:ld.data.toList=f.load):
  ao prog 106 #[ξ (ζ ⟨B.ml,0,ε⟩),σ υ h,Θ #[σ υ f.kind,σ υ f.qb,σ υ f.id,σ υ f.n,Γ ld],σ υ (stV B.sl h f.qb)] w (jU w F B (sv (dlF f (s.sg h f.qb)).1) {s with sg:=vz s.sg h f.qb (dlF f (s.sg h f.qb)).2}):=by
 have H:=Hd p;have J:=Hd fK;have HA:=Hd (λk hk W=>VG f hf k hk ld W);obtain⟨a5,h5⟩:=qc (kK f 5);have P:=Hd (qx h5);have D:=Hd (OfW.of H.o (But.refl _ _) J.o);have gX:ld.toList.isEmpty=f.load.isEmpty:=by rw[ae,fK]
 have hlen:=p.yc.few;have HIN:=Hd Pb;have HN:=Hd (ac hh qE);clear h5 hf;rcases QH p.yc hh qE with⟨e1,T⟩|⟨j,e,e1,t,he,Ox,vJ,T⟩;all_goals first
  |(rcases jd8 f T gX with⟨q,_⟩|⟨_,⟨BK,z⟩|⟨BK,⟨L,z⟩|⟨L,z⟩⟩⟩)
  |(obtain⟨sa,cp,U⟩:=jq p.yc.r
    obtain⟨_,g,rfl,_⟩:=p.yc.cells U he;have d:=Hd U;have O:Hid (F g/\g<w.heap.size):=Hd ⟨p.yc.rF g (by rw[U];rfl),(p.yc.r.lt g (by rw[U];rfl)).2⟩;have S:=Hd he;have R:=Hd vJ;have OV:=Hd Ox;clear U he vJ Ox
    rcases P8 f T gX with⟨_,⟨BK,z⟩|⟨BK,⟨L,z⟩|⟨L,⟨i1,z⟩|⟨i1,⟨i2,z⟩|⟨i2,z⟩⟩⟩⟩⟩|⟨q,_⟩)
 all_goals try(exfalso;simp[hk]at q;done)
 all_goals
  rw[e1];have sJ:=Hd z;have HO:=Hd T;clear p fK e1 hk hh qE z T gX;go_enter func106,ntmps106;go_wp2;obtain⟨V,hW⟩:∃W,w.alloc (ω #[σ υ f.kind,σ υ f.qb,σ υ f.id,σ υ f.n,Γ ld] 182)=W:=⟨_,lc⟩
  rw[hW]at D|-;clear hW;obtain⟨k0,k1,k2,k3,k4,I⟩:=D.cells J.o;try
   rw[d.o]at I;obtain⟨_,_,_,r2,r3,r4,r5,rf⟩:=D.m.yc.Aa d.o S.o
  go_quiet (fail);have D:=Hd (D.drewN nq);generalize V.drewN nq=V at D|-;obtain⟨k0,k1,k2,k3,k4,I⟩:=D.cells J.o;try
   rw[d.o]at I;obtain⟨_,_,_,r2,r3,r4,r5,rf⟩:=D.m.yc.Aa d.o S.o
  go_wp2;try
   go_ret;exact D.same H.o (But.refl _ _) sJ.o lc
 all_goals
  have D:=Hd (D.alloc (ω #[σ υ h,σ υ f.qb,σ υ f.id,σ υ 1,Δ ε 0 0,χ θ] 191));obtain⟨X,hX⟩:∃X,V.alloc (ω #[σ υ h,σ υ f.qb,σ υ f.id,σ υ 1,Δ ε 0 0,χ θ] 191)=X:=⟨_,lc⟩
  obtain⟨b0,b1,b2,b3,b4,b5⟩:=st6 hX;have hXV:V.heap.size<X.heap.size:=by rw[<-hX];simp
  rw[hX]at D|-;clear hX
 .have I:X.cell? ⟨B.ml,2,ε⟩=ζ B.sg:=(D.m.cells 2 _ lc).1;have Ol:B.ml<X.heap.size:=(j5 D.m.ml.2).1;obtain⟨si,s1,s2,s3,s4⟩:=HIN.o;have Y:=Hd (ac s1 (ac s2 (ac s3 s4)));clear s1 s2 s3 s4;go_region_law (first|(refine step_append_lies _ lc (.tmp 47) (.tmp 49) 99 lc 0 191 si _ 6 64 underlying99 Y.1 Y.2.1 Y.2.2.1 Y.2.2.2 lc (by decide) B.sg B.sl.length (vk B.sl) lc (D.m.yc.r.alloc _) ⟨X.heap.size,0,ε⟩ 1 1 [σ υ h,σ υ f.qb,σ υ f.id,σ υ 1,Δ ε 0 0,χ θ] lc lc (jd2 X _ _ _ _ _ _ _) (by intro u hu;simp at hu;rcases hu with rfl|rfl|rfl|rfl|rfl|rfl<;>rfl) (by decide) (by unfold bj;omega) (by omega) (xzl _) _ lc ?_;intro g cap w3 fH jQ N7 FP;have H3:=Hd (D.Ru (e:=⟨h,f.qb,⟨f.id,1,[],θ⟩,Δ ε 0 0⟩) J.o (by first|exact il ((qy _ _).alloc (jg _) _)|exact il ((qy _ _).alloc (jg _) _).drew) jQ fH N7 lc HN.1 HN.2 HO.o lc lc);obtain⟨⟨d3,e3⟩,_,z0,z1,z2,z3,z4⟩:=H3.o;clear fH jQ N7 FP));all_goals
   go_wp2_with (go_at_call 107;refine(HA.o 5 (by decide) _).mono ?_;rw[P.o];rintro e9 w9 ⟨rfl,E⟩;have M:=Hd E;clear E)
   go_ret;rw[sJ.o];obtain⟨B',q1,q2,q3⟩:=H3.2.1.out;exact⟨by rw[P.o];rfl,B',q1,q2.idle M.o,q3.trans (M.mono λ_ x=>x.elim)⟩
 all_goals
  obtain⟨k0,k1,k2,k3,k4,I⟩:=D.cells J.o;rw[d.o]at I;obtain⟨_,r0,r1,r2,r3,r4,r5,rf⟩:=D.m.yc.Aa d.o S.o;go_quiet (fail);have D:=Hd (D.drewN nq);have C:St6 V.heap.size h f.qb f.id (X.drewN nq):=⟨b0,b1,b2,b3,b4,b5⟩
  generalize X.drewN nq=V3 at D C|-;obtain⟨c0,c1,c2,c3,c4,c5⟩:=C;obtain⟨k0,k1,k2,k3,k4,I⟩:=D.cells J.o;rw[d.o]at I;obtain⟨_,r0,r1,r2,r3,r4,r5,rf⟩:=D.m.yc.Aa d.o S.o
 .have Ox:=OV.o;subst Ox;have R0:=RwW.of D.o S.o (jg _);have R1:RwW w F B s f w.heap.size j e e.x e.v (V3.setCell ⟨g,j*6,ε⟩ (σ υ e.h)):=R0.set (i:=0) d.o t O.o (by decide) lc (R0.row t).1 (R0.row t).2;have R2:=R1.set (i:=1) (u:=σ υ f.qb) (x':=e.x) (v':=e.v) d.o t O.o (by decide) (by rw[<-R.o];rfl) (R1.row t).1 (R1.row t).2;have R3:=R2.set (i:=2) (u:=σ υ f.id) (x':=⟨f.id,e.x.next,e.x.kv,e.x.done⟩) (v':=e.v) d.o t O.o (by decide) lc (R2.row t).1 (R2.row t).2;have R4:=R3.set (i:=3) (u:=σ υ 1) (x':=⟨f.id,1,e.x.kv,e.x.done⟩) (v':=e.v) d.o t O.o (by decide) lc (R3.row t).1 (R3.row t).2;have R5:=R4.set (i:=4) (u:=Δ ε 0 0) (x':=⟨f.id,1,[],e.x.done⟩) (v':=Δ ε 0 0) d.o t O.o (by decide) lc ⟨aj _ _ _ _,lu.nil _⟩ (λb L=>by cases L);have R6:=Hd (R5.set (i:=5) (u:=χ θ) (x':=⟨f.id,1,[],θ⟩) (v':=Δ ε 0 0) d.o t O.o (by decide) lc ⟨aj _ _ _ _,lu.nil _⟩ (λb L=>by cases L));obtain⟨_,z0,z1,z2,z3,z4⟩:=R6.cells d.o t J.o;clear R0 R1 R2 R3 R4 R5;go_wp2;go_region_with (fail)
  all_goals
   go_wp2_with (go_at_call 107;refine(HA.o 5 (by decide) _).mono ?_;rw[P.o];rintro e9 w9 ⟨rfl,E⟩;have M:=Hd E;clear E)
   go_ret;rw[sJ.o];have H8:=(R6.idle (il ((qy _ _).drew))).fin (v':=sv (kK f 5)) M.o (u:=Γ a5) (by rw[P.o]);rw[R.o]at H8;exact H8
 .go_wp2_with (go_at_call 107;refine(HA.o 5 (by decide) _).mono ?_;rw[P.o];rintro e9 w9 ⟨rfl,E⟩;have M:=Hd E;clear E)
  go_ret;exact D.same H.o M.o sJ.o (by rw[P.o];rfl)
variable {w0:ah} {G:gF->Prop} {n x:gF} {pv cv:al} {m:Mv}
theorem DnW.stores (h:DnW w0 x pv cv m w) (i:gF) (v:al) (e:(qz pv cv m).setIfInBounds i v=qz pv' cv' m'):DnW w0 x pv' cv' m' (w.setCell ⟨x,i,ε⟩ v):=
 ⟨(xhs w x i _ _ v h.b).trans (by rw[e]),But.setCell (B:=(· =x)) h.but lc _ _⟩
theorem ku.mvg (h:ku w F B s) (J:n<4) (S:s.mv n=ζ m) (H:B.mp n=ζ x) (d:But (· =x) w w') (hx:w'.heap[x]?=ζ (.cells (qz pv' cv' m') 110 (0,0)))
  (L:nV w pv' m'.ps) (t:pX w cv' m'.cs) (R:∀b,pv'.ownBlock=ζ b->(B.pv n).ownBlock=ζ b) (M:∀b,cv'.ownBlock=ζ b->(B.cv n).ownBlock=ζ b):
  ku w' F {B with pv:=qf B.pv n pv',cv:=qf B.cv n cv'} {s with mv:=qf s.mv n (ζ m')}:=by
 have I:=h.mv n J;rw[S]at I;obtain⟨g,P,z2,z3,z4,z5,z6,z7⟩:=I;rw[H]at P;cases P;have lt:∀{b:gF} {o:Obj},w.heap[b]?=ζ o->b<w.heap.size:=λd=>(j5 d).1;have p:∀(b:gF) (c:jC al) (ty:bD),w.heap[b]?=ζ (Obj.cells c ty (0,0))->ty≠110->w'.heap[b]?=w.heap[b]?:=λb c ty D n1=>d.keep b (lt D) λe=>by rw[e,z3]at D;exact n1 (jc D).symm
 obtain⟨cur,O,k2⟩:=h.sb.2;refine⟨⟨h.ml.1,(p _ _ _ h.ml.2 (by decide)).trans h.ml.2⟩,⟨h.sb.1,cur,(p _ _ _ O (by decide)).trans O,k2⟩,λi z=>⟨(h.r i z).1.block λq X=>?_,(h.r i z).2⟩,λi z=>?_,h.mpi,λi j q z V T U=>?_,h.yc.keep (λb c ty d _ Y=>p b c ty d (by rcases Y with rfl|rfl<;>decide)) (λ_ h=>h) lc lc⟩;{obtain⟨c,t⟩:=(h.r i z).1.ty X;exact p q c _ t (by decide)};{show nP w' F _ i (qf s.mv n _ i);by_cases e:i=n;{subst e;rw[qj];have E:qf B.pv i pv' i=pv':=qj ..;have C:qf B.cv i cv' i=cv':=qj ..;refine⟨x,H,z2,?_,?_,?_,λb d=>?_,λb d=>?_⟩;{rw[hx];show _=ζ (Obj.cells (qz (qf B.pv i pv' i) (qf B.cv i cv' i) m') _ _);rw[E,C]};{show nV w' (qf B.pv i pv' i) m'.ps;rw[E];exact L.block λb d=>by obtain⟨c,t⟩:=jo.ty L d;exact p b c _ t (by decide)};{show pX w' (qf B.cv i cv' i) m'.cs;rw[C];exact t.block λb d=>by obtain⟨c,t⟩:=jo.ty t d;exact p b c _ t (by decide)};{replace d:(qf B.pv i pv' i).ownBlock=ζ b:=d;rw[E]at d;exact z6 b (R b d)};replace d:(qf B.cv i cv' i).ownBlock=ζ b:=d;rw[C]at d;exact z7 b (M b d)};rw[qh _ _ e];exact((h.mv i z).keep (λb c kE D=>d.keep b (lt D) λC=>e (h.mpi i n b z J kE (by rw[H,C]))) (λb c _ d=>p b c _ d (by decide)) (λb c _ d=>p b c _ d (by decide))).same lc (qh _ _ e) (qh _ _ e)}
 .have key:∀i,(qf B.cv n cv' i).ownBlock=ζ q->(B.cv i).ownBlock=ζ q:=λi h=>by by_cases e:i=n;{subst e;rw[qj]at h;exact M q h};rw[qh _ _ e]at h;exact h
  exact h.cvi i j q z V (key i T) (key j U)
theorem OfW.dn {fb:gF} (d:OfW w0 F B s f fb w) (r:n<4) (p:s.mv n=ζ m) (t:B.mp n=ζ x):DnW w x (B.pv n) (B.cv n) m w:=by have h:=d.m.mv n r;rw[p]at h;obtain⟨g,i,_,z,_⟩:=h;rw[t]at i;cases i;exact⟨z,But.refl _ _⟩
theorem DnW.IK {sb:bn} (h:DnW w0 x pv cv m w) (d:sb.data.toList=m.sent):w.cell? ⟨x,0,ε⟩=ζ (σ υ m.id)/\w.cell? ⟨x,1,ε⟩=ζ (σ υ m.fr)/\w.cell? ⟨x,2,ε⟩=ζ (σ υ m.to)/\w.cell? ⟨x,5,ε⟩=ζ (Γ sb)/\w.cell? ⟨x,6,ε⟩=ζ (σ υ m.n):=by rw[<-qx d];exact⟨by simp[aa,h.b,qz],by simp[aa,h.b,qz],by simp[aa,h.b,qz],by simp[aa,h.b,qz],by simp[aa,h.b,qz]⟩
theorem jao (p:ku w G B s) (P:h<s.hosts) (u:bn) (D:u.size<=1048576) (E:jY u.data.toList=ζ f) (z:¬(f.qb<4/\f.load=[])):ao prog 66 #[ξ (ζ ⟨B.ml,0,ε⟩),σ υ h,Γ u] w (jU w G B (σ υ 0) s):=by
 have c0:w.cell? ⟨B.ml,0,ε⟩=ζ (σ υ s.hosts):=(p.cells 0 _ lc).1;have M:ν ((h:fo)<0)=θ:=xdf (by omega);have O:ν (s.hosts<=h)=θ:=xdf (by omega);have i:=Hd (IU (w:=w) u D);unfold vg at i;rw[E]at i;obtain⟨ld,t⟩:=qc f.load;have C:=Hd t;have J:ld.toList.isEmpty=f.load.isEmpty:=by rw[ae,t]
 have H:=Hd p;clear p E t D;rcases Nat.lt_or_ge f.qb 4 with h4|h4
 .have L:ν ((3:fo)<f.qb)=θ:=xdf (by omega);have I:f.load.isEmpty=θ:=by
   cases hl:f.load with
   |nil=>exact gY ⟨h4,hl⟩ z
   |cons a l=>rfl
  rw[I]at J;clear z I;go_enter func66,ntmps66;go_wp2_with (go_at_call 104;refine i.mono ?_;rintro e w1 ⟨rfl,d⟩;rw[yF C.o];have r:=Hd d;clear d)
  go_ret;exact .idleB H.o (r.trans (il ((qy _ _).alloc (jg _) _)))
 .have L:ν ((3:fo)<f.qb)=η:=xdt (by omega);clear z;go_enter func66,ntmps66;go_wp2_with (go_at_call 104;refine i.mono ?_;rintro e w1 ⟨rfl,d⟩;rw[yF C.o];have r:=Hd d;clear d)
  go_ret;exact .idleB H.o (r.trans (il ((qy _ _).alloc (jg _) _)))
theorem q5d (p:ku w G B s) (hh:h<s.hosts) (u:bn) (P:u.size<=1048576) (R:jY u.data.toList=ζ f) (T:f.qb<4) (O:f.load=[]) (J:s.mv f.qb=ε):ao prog 66 #[ξ (ζ ⟨B.ml,0,ε⟩),σ υ h,Γ u] w (jU w G B (σ υ 0) s):=by
 have c0:w.cell? ⟨B.ml,0,ε⟩=ζ (σ υ s.hosts):=(p.cells 0 _ lc).1;have Y:ν ((h:fo)<0)=θ:=xdf (by omega);have g2:ν (s.hosts<=h)=θ:=xdf (by omega);have r:=Hd (IU (w:=w) u P);unfold vg at r;rw[R]at r;obtain⟨ld,z⟩:=qc f.load;have i:=Hd z;have C:ld.toList.isEmpty=f.load.isEmpty:=by rw[ae,z]
 have H:=Hd p;have pO:((f.qb:fo)<4):=by omega
 have j1:ν ((3:fo)<f.qb)=θ:=xdf (by omega);rw[O]at C;replace C:ld.toList.isEmpty=η:=C;have X:=Hd T;have E:=p.mv f.qb T;rw[J]at E;have U:=Hd E.1;clear p R z P O J E;go_enter func66,ntmps66;go_wp2_with (go_at_call 104;refine r.mono ?_;rintro e w1 ⟨rfl,L⟩;rw[yF i.o];have I:=Hd L;clear L)
 obtain⟨W,M⟩:∃W,w1.alloc (ω #[σ υ f.kind,σ υ f.qb,σ υ f.id,σ υ f.n,Γ ld] 182)=W:=⟨_,lc⟩
 have D:=Hd (OfW.of (f:=f) H.o I.o i.o);rw[M]at D|-;clear M I;generalize w1.heap.size=fb at D|-;obtain⟨_,S,_⟩:=D.cells i.o;have c1:W.cell? ⟨B.ml,1,ε⟩=ζ (Δ (ζ ⟨B.sb,0,ε⟩) 4 B.cap):=(D.m.cells 1 _ lc).1;go_quiet (fail);have d:=Hd (D.drewN nq);generalize W.drewN nq=V at d|-;clear D S c1;obtain⟨k0,S,k2,k3,k4,_⟩:=d.cells i.o;obtain⟨_,_,t,_⟩:=d.m.sbc X.o;rw[U.o]at t;replace t:V.cell? ⟨B.sb,f.qb*3+2,ε⟩=ζ (.pointer ε):=t;go_wp2;go_quiet (fail);go_wp2;go_ret;exact .idleB H.o ((d.drewN nq).b)
theorem DnW.cells3 {sb:bn} (h:DnW w0 x pv cv m w) (d:sb.data.toList=m.sent):w.cell? ⟨x,5,ε⟩=ζ (Γ sb)/\w.cell? ⟨x,6,ε⟩=ζ (σ υ m.n)/\w.cell? ⟨x,7,ε⟩=ζ (σ υ m.kind)/\w.cell? ⟨x,8,ε⟩=ζ (σ υ m.parts)/\w.cell? ⟨x,3,ε⟩=ζ pv/\w.cell? ⟨x,4,ε⟩=ζ cv/\∀i,w.frozen? ⟨x,i,ε⟩=θ:=by rw[<-qx d];exact⟨by simp[aa,h.b,qz],by simp[aa,h.b,qz],by simp[aa,h.b,qz],by simp[aa,h.b,qz],by simp[aa,h.b,qz],by simp[aa,h.b,qz],λi=>by simp[aQ,h.b]⟩
theorem OfW.Rw {fb:gF} (d:OfW w0 F B s f fb w) (p:n<4) (i:s.mv n=ζ m) (r:B.mp n=ζ x) (h:DnW w x pv' cv' m' w') (C:nV w pv' m'.ps) (z:pX w cv' m'.cs) (t:∀b,pv'.ownBlock=ζ b->(B.pv n).ownBlock=ζ b) (D:∀b,cv'.ownBlock=ζ b->(B.cv n).ownBlock=ζ b):
  jU w0 F B (σ υ 0) {s with mv:=qf s.mv n (ζ m')} (ψ (σ υ 0)) w':=
 ⟨lc,{B with pv:=qf B.pv n pv',cv:=qf B.cv n cv'},lc,(ku.mvg d.m p i r h.but h.b C z t D).mono λ_ h=>.inl h,(d.b.mono λ_ x=>x.elim).trans (h.but.mono λ_ e=>e▸d.m.mpG p i r)⟩
variable {F':gF->Prop} {to:gF}
theorem ku.jni (h:ku w F B s) (R:n<4):ku (w.setCell ⟨B.sb,n*3,ε⟩ (σ υ to)) F B {s with ow:=qf s.ow n to}/\But F w (w.setCell ⟨B.sb,n*3,ε⟩ (σ υ to)):=by
 obtain⟨cur,C,O⟩:=h.sb.2;have L:=xhs w B.sb (n*3) cur 104 (σ υ to) C;have no:∀(b:gF) (c:jC al) (ty:bD),w.heap[b]?=ζ (Obj.cells c ty (0,0))->ty≠104->(w.setCell ⟨B.sb,n*3,ε⟩ (σ υ to)).heap[b]?=w.heap[b]?:=λb c ty t P=>xho w _ b _ λe=>by rw[show b=B.sb from e,C]at t;exact P (jc t).symm
 refine⟨⟨⟨h.ml.1,(no _ _ _ h.ml.2 (by decide)).trans h.ml.2⟩,⟨h.sb.1,_,L,λi p=>?_⟩,λi p=>⟨(h.r i p).1.block λq J=>?_,(h.r i p).2⟩,λi p=>((h.mv i p).keep (λb c _ d=>no b c _ d (by decide)) (λb c _ d=>no b c _ d (by decide)) (λb c _ d=>no b c _ d (by decide))).same lc lc lc,h.mpi,h.cvi,h.yc.keep (λb c ty d _ M=>no b c ty d (by rcases M with rfl|rfl<;>decide)) (λ_ h=>h) lc lc⟩,But.setCell (But.refl _ _) h.sb.1 _ _⟩;{obtain⟨z,E,H⟩:=O i p;have D:i*3<cur.size:=(j5 z).1;refine⟨?_,by rw[xne (by omega)];exact E,by rw[xne (by omega)];exact H⟩;show _=ζ (Value.int .i64 ((qf s.ow n to i:gF):fo));by_cases e1:i=n;{subst e1;rw[qj,xsl D]};rw[qh _ _ e1,xne (by omega)];exact z};obtain⟨c,I⟩:=(h.r i p).1.ty J;exact no q c _ I (by decide)
theorem ku.jnh (h:ku w F B s) (ep:gF):ku (w.setCell ⟨B.ml,4,ε⟩ (σ υ ep)) F B {s with ep:=ep}/\But F w (w.setCell ⟨B.ml,4,ε⟩ (σ υ ep)):=by
 have E:=xhs w B.ml 4 _ _ (σ υ ep) h.ml.2;have no:∀(b:gF) (c:jC al) (ty:bD),w.heap[b]?=ζ (Obj.cells c ty (0,0))->ty≠101->(w.setCell ⟨B.ml,4,ε⟩ (σ υ ep)).heap[b]?=w.heap[b]?:=λb c ty t J=>xho w _ b _ λe=>by rw[show b=B.ml from e,h.ml.2]at t;exact J (jc t).symm
 obtain⟨cur,z,I⟩:=h.sb.2;refine⟨⟨⟨h.ml.1,E.trans lc⟩,⟨h.sb.1,cur,(no _ _ _ z (by decide)).trans z,I⟩,λi p=>⟨(h.r i p).1.block λq D=>?_,(h.r i p).2⟩,λi p=>((h.mv i p).keep (λb c _ d=>no b c _ d (by decide)) (λb c _ d=>no b c _ d (by decide)) (λb c _ d=>no b c _ d (by decide))).same lc lc lc,h.mpi,h.cvi,h.yc.keep (λb c ty d _ H=>no b c ty d (by rcases H with rfl|rfl<;>decide)) (λ_ h=>h) lc lc⟩,But.setCell (But.refl _ _) h.ml.1 _ _⟩;obtain⟨c,C⟩:=(h.r i p).1.ty D;exact no q c _ C (by decide)
structure CmW (w0:ah) (F:gF->Prop) (B:MA) (s:St) (fb x sh:gF) (pv cv:al) (m:Mv) (w:ah):Prop where
 p:ku w F B s
 b:But F w0 w
 fr:∃c,w.heap[fb]?=ζ (.cells c 182 (0,0))/\c[1]?=ζ (σ υ sh)
 xb:w.heap[x]?=ζ (.cells (qz pv cv m) 110 (0,0))
section
variable {fb sh:gF} {pv cv:al}
theorem CmW.step {p:MA} {s':St} {q i:gF} {u:al} {c:jC al} {ty:bD} (h:CmW w0 F B s fb x sh pv cv m w) (t:w.heap[q]?=ζ (.cells c ty (0,0))) (C:ty≠182) (D:ty≠110) (hF:F q) (E:ku (w.setCell ⟨q,i,ε⟩ u) F p s'):CmW w0 F p s' fb x sh pv cv m (w.setCell ⟨q,i,ε⟩ u):=by obtain⟨c2,d,z⟩:=h.fr;refine⟨E,h.b.trans (But.setCell (But.refl _ _) hF _ _),⟨c2,(xho w _ fb _ λe=>?_).trans d,z⟩,(xho w _ x _ λe=>?_).trans h.xb⟩;{rw[e,t]at d;exact C (jc d)};have r:=h.xb;rw[e,t]at r;exact D (jc r)
theorem CmW.idle (h:CmW w0 F B s fb x sh pv cv m w) (d:But (λ_=>gI) w w'):CmW w0 F B s fb x sh pv cv m w':=by obtain⟨c2,i,r⟩:=h.fr;exact⟨ku.idle h.p d,h.b.trans (d.mono λ_ x=>x.elim),⟨c2,(d.keep _ (j5 i).1 id).trans i,r⟩,(d.keep _ (j5 h.xb).1 id).trans h.xb⟩
theorem CmW.drewN (h:CmW w0 F B s fb x sh pv cv m w) (k:gF):CmW w0 F B s fb x sh pv cv m (w.drewN k):=h.idle (But.drewN (But.refl _ _) k)
theorem CmW.cells (h:CmW w0 F B s fb x sh pv cv m w):w.cell? ⟨fb,1,ε⟩=ζ (σ υ sh)/\w.cell? ⟨x,0,ε⟩=ζ (σ υ m.id)/\w.cell? ⟨x,2,ε⟩=ζ (σ υ m.to)/\w.cell? ⟨B.ml,2,ε⟩=ζ B.sg:=by obtain⟨c2,d,i⟩:=h.fr;exact⟨by simp[aa,d,i],by simp[aa,h.xb,qz],by simp[aa,h.xb,qz],(h.p.cells 2 _ lc).1⟩
end
theorem CmW.Rs {d:MA} {s':St} {fb sh:gF} {pv cv:al} (h:CmW w0 F d s' fb x sh pv cv m w) (e:d.ml=B.ml):jU w0 F B (σ υ 0) s' (ψ (σ υ 0)) w:=⟨lc,d,e,h.p.mono λ_ h=>.inl h,h.b⟩
theorem CmW.come {fb:gF} (d:OfW w0 F B s f fb w) (r:f.qb<4) (E:s.mv f.qb=ζ m) (I:B.mp f.qb=ζ x) (h:DnW w x (B.pv f.qb) (B.cv f.qb) m' w1) (T:m'.ps=m.ps) (U:m'.cs=m.cs):
  CmW w0 F {B with lv:=qf B.lv f.qb (Δ ε 0 0),mp:=qf B.mp f.qb ε,cv:=qf B.cv f.qb (Δ ε 0 0)} {s with ow:=qf s.ow f.qb to,kv:=vv s.kv f.qb [],mv:=qf s.mv f.qb ε,ep:=s.ep+1} fb x f.qb (B.pv f.qb) (B.cv f.qb) m'
   ((((w1.setCell ⟨B.sb,f.qb*3,ε⟩ (σ υ to)).setCell ⟨B.sb,f.qb*3+1,ε⟩ (Δ ε 0 0)).setCell ⟨B.sb,f.qb*3+2,ε⟩ (.pointer ε)).setCell ⟨B.ml,4,ε⟩ (σ υ ((s.ep:fo)+1))):=by
 have hx:=d.m.mpG r E I;have M1:=d.m.mvb r E I h.but h.b T U;have H:fb≠x:=λe=>by have J:=d.fr;have L:=d.m.mv f.qb r;rw[E]at L;obtain⟨g,O,_,z3,_⟩:=L;rw[I]at O;cases O;rw[e,z3]at J;exact gY (jc J) (by decide)
 have t:CmW w0 F B _ fb x f.qb (B.pv f.qb) (B.cv f.qb) m' w1:=⟨M1,(d.b.mono λ_ x=>x.elim).trans (h.but.mono λ_ e=>e▸hx),⟨_,(h.but.keep _ (j5 d.fr).1 H).trans d.fr,lc⟩,h.b⟩
 have S:=λ{P:MA} {s':St} {w:ah} (M:ku w F P s')=>M.sb.2.choose_spec.1;have z:=t.step (q:=B.sb) (i:=f.qb*3) (S t.p) (by decide) (by decide) t.p.sb.1 (ku.jni (to:=to) t.p r).1;have C:=z.step (q:=B.sb) (i:=f.qb*3+1) (S z.p) (by decide) (by decide) z.p.sb.1 (z.p.store r (v:=Δ ε 0 0) (X:=[]) ⟨aj _ _ _ _,lu.nil _⟩ (λb Y=>by cases Y));have D:=C.step (q:=B.sb) (i:=f.qb*3+2) (S C.p) (by decide) (by decide) C.p.sb.1 (ku.drop C.p r).1;have R:=D.step (q:=B.ml) (i:=4) D.p.ml.2 (by decide) (by decide) D.p.ml.1 (ku.jnh D.p (s.ep+1)).1;have V:qf (qf s.mv f.qb (ζ m')) f.qb ε=qf s.mv f.qb ε:=by funext i;by_cases e:i=f.qb;{subst e;rw[qj,qj]};rw[qh _ _ e,qh _ _ e,qh _ _ e]
 rw[<-V];exact R
theorem ve.jka {sg:gF->gF->jb Sg} {L1 L2:gJ RSg} {e:RSg} {v:al} (p:ve w F B sg) (r:B.sl=L1++e::L2) (T:w.ownsRow 0 191 6 v (L1++L2).length (vk (L1++L2))) (U:∀b,v.ownBlock=ζ b->N<=b):
  ve w (λb=>F b\/N<=b) {B with sg:=v,sl:=L1++L2} (vz sg e.h e.k ε):=by
 have p2:=p;have D:=p.nd;rw[r]at D;obtain⟨X,Y,C⟩:=List.pairwise_append.1 D;obtain⟨n4,n5⟩:=List.pairwise_cons.1 Y;have O:∀q∈L1++L2,¬(q.h=e.h/\q.k=e.k):=λq hq=>by rcases am.1 hq with hq|hq;{exact C q hq e (.head _)};exact λh=>n4 q hq ⟨h.1.symm,h.2.symm⟩
 have V:∀q∈L1++L2,q∈B.sl:=λq hq=>by rw[r];rcases am.1 hq with hq|hq;{exact am.2 (.inl hq)};exact am.2 (.inr (.tail _ hq))
 refine⟨T,λb M=>.inr (U b M),λq hq=>?_,List.pairwise_append.2 ⟨X,n5,λa P b i=>C a P b (.tail _ i)⟩,λh k R S d=>?_⟩;{obtain⟨E,H,I,J,L⟩:=p2.e q (V q hq);exact⟨E,H,(jy (O q hq)).trans I,J,λb i=>.inl (L b i)⟩};by_cases e1:h=e.h/\k=e.k;{obtain⟨rfl,rfl⟩:=e1;rw[xq]at d;cases d};rw[jy e1]at d;obtain⟨q,hq,t,z⟩:=p.all h k R S d;rw[r]at hq;refine⟨q,?_,t,z⟩;rcases am.1 hq with hq|hq;{exact am.2 (.inl hq)};rcases bB.1 hq with rfl|hq;{exact gY ⟨t.symm,z.symm⟩ e1};exact am.2 (.inr hq)
variable {wA wr:ah} {v v':al} {L1 L2:gJ RSg} {e:RSg}
theorem QO (L1 L2:gJ RSg):vk (L1++L2)=vk L1++vk L2:=by simp[vk]
theorem Jo:∀L:gJ RSg,(vk L).length=L.length*6
 |[]=>rfl
 |a::L=>by show(vk L).length+6=(L.length+1)*6;rw[Jo L];omega
theorem RsW.apps {out:gJ RSg} (h:RsW w v out wr) (L:gJ RSg) (d:wr.grownBy w2 v.ownBlock) (z:w2.ownsRow w.heap.size 191 6 v' (out.length+L.length) (vk out++vk L)):RsW w v' (out++L) w2:=by refine⟨by rw[az,QO];exact z,⟨xlt h.b.size d.size,λi p _=>?_,d.os.trans h.b.os,d.output.trans h.b.output⟩⟩;have t:i<wr.heap.size:=xll p h.b.size;exact(d.block i t λe=>by have:=(h.r.lt i e.symm).1;omega).trans (h.b.keep i p λx=>x)
theorem Xk (L:gJ RSg) (p:∀q∈L,∃i n c,q.v=.slice i n c):∀u∈vk L,u.oneCell'=η:=λu d=>by unfold vk at d;obtain⟨q,r,h⟩:=List.mem_flatMap.1 d;obtain⟨i,n,c,e⟩:=p q r;rw[e]at h;simp only[bB,List.not_mem_nil,or_false]at h;rcases h with rfl|rfl|rfl|rfl|rfl|rfl<;>rfl
theorem PG {a:Act} {o:Oper} {next:Act->ah->Prop} {Q:Exit->Act->ah->Prop} {g off c:gF} (p q:Operand) (I:o.op=.call {callee:=.builtin .append,args:=#[p,q],argTypes:=#[99,99]}) (L:a.eval p=v) (h:RsW wA v L1 w) (O:a.eval q=Δ (ζ ⟨g,off,ε⟩) L2.length c) (H:∀i u,(vk L2)[i]?=ζ u->w.cell? ⟨g,off+i,ε⟩=ζ u) (C:∀u∈vk L2,u.oneCell'=η) (U:L1.length+L2.length<=16)
  (E:∀v' d,RsW wA v' (L1++L2) d->w.grownBy d v.ownBlock->next (a.put o.dst v') d):o.wp prog a w next Q:=by
 obtain⟨z,R,l2,S,T⟩:=Pb;obtain⟨v',w',J,D,t,_⟩:=run_append_own_at (P:=prog) w wA.heap.size 99 o.type 191 z _ 6 64 underlying99 R l2 S T lc (by decide) v L1.length (vk L1) h.r ⟨g,off,ε⟩ L2.length c (vk L2) (Jo L2) (λi u M=>by rw[ax];exact H i u M) C (by unfold bj;omega) (by omega) h.b.size;unfold Oper.wp execOp;simp only[I,resolve,invoke,builtin,Sem.run_bind,Sem.run_pure,Result.andThen_ok,List.map_toArray,List.map_cons,List.map_nil,L,O,J];exact E v' w' (RsW.apps h L2 t D) t
variable {A:PA}
theorem jcj (p:zx w F A s) (h:fo) (u:bn) (r:h<0\/s.hosts<=h):ao prog 65 #[ξ (ζ ⟨A.cl,0,ε⟩),σ υ h,Γ u] w (kD w F A (σ υ 1) s):=by have c0:w.cell? ⟨A.cl,0,ε⟩=ζ (σ υ s.hosts):=(p.cells 0 _ lc).1;have H:=Hd p;clear p;rcases Int.lt_or_le h 0 with h2|h2;{have d:ν (h<0)=η:=xdt h2;go_enter func65,ntmps65;go_wp2;go_ret;exact .idle H.o (qy _ _)};have d:ν (h<0)=θ:=xdf (by omega);have i:ν ((s.hosts:fo)<=h)=η:=xdt (by omega);go_enter func65,ntmps65;go_wp2;go_ret;exact .idle H.o (qy _ _)
theorem jcm (p:zx w F A s) (E:h<s.hosts) (u:bn) (I:u.size<=268435456) (z:jY u.data.toList=ε):ao prog 65 #[ξ (ζ ⟨A.cl,0,ε⟩),σ υ h,Γ u] w (kD w F A (σ υ 0) s):=by
 have c0:w.cell? ⟨A.cl,0,ε⟩=ζ (σ υ s.hosts):=(p.cells 0 _ lc).1;have H:=Hd p;have C:ν ((h:fo)<0)=θ:=xdf (by omega);have D:ν (s.hosts<=h)=θ:=xdf (by omega);have d:=Hd (Iw (w:=w) u (by omega));unfold vg at d;rw[z]at d;clear p;go_enter func65,ntmps65;go_wp2_with (go_at_call 101;refine d.mono ?_;rintro e w1 ⟨⟨f,rfl⟩,r⟩;obtain⟨ld,i⟩:=qc f.load;rw[CJ i];have t:=Hd r;clear r i)
 go_ret;exact .idleB H.o (t.trans (il ((qy _ _).alloc (jg _) _)))
theorem jhf (p:zx w F A s) (M:h<s.hosts) (u:bn) (O:u.size<=268435456) (C:jY u.data.toList=ζ f) (z:¬(f.qb<4/\f.load=[])):ao prog 65 #[ξ (ζ ⟨A.cl,0,ε⟩),σ υ h,Γ u] w (kD w F A (σ υ 0) s):=by
 have c0:w.cell? ⟨A.cl,0,ε⟩=ζ (σ υ s.hosts):=(p.cells 0 _ lc).1;have H:=Hd p;have I:ν ((h:fo)<0)=θ:=xdf (by omega);have J:ν (s.hosts<=h)=θ:=xdf (by omega);have i:=Hd (Iw (w:=w) u (by omega));unfold vg at i;rw[C]at i;obtain⟨ld,r⟩:=qc f.load;have D:=Hd r;by_cases hs:f.qb<4
 .have E:ν ((4:fo)<=f.qb)=θ:=xdf (by omega);have L:ld.toList.isEmpty=θ:=by
   rw[ae,r];cases hl:f.load with
   |nil=>exact gY ⟨hs,hl⟩ z
   |cons=>rfl
  clear p C z r;go_enter func65,ntmps65;go_wp2_with (go_at_call 101;refine i.mono ?_;rintro e w1 ⟨rfl,d⟩;rw[CJ D.o];have t:=Hd d;clear d)
  go_ret;exact .idleB H.o (t.trans (il ((qy _ _).alloc (jg _) _)))
 .have E:ν ((4:fo)<=f.qb)=η:=xdt (by omega);clear p C z r;go_enter func65,ntmps65;go_wp2_with (go_at_call 101;refine i.mono ?_;rintro e w1 ⟨rfl,d⟩;rw[CJ D.o];have t:=Hd d;clear d)
  go_ret;exact .idleB H.o (t.trans (il ((qy _ _).alloc (jg _) _)))
def rpM (s:St) (h:gF) (f:Fr) (m:Mv):St:=if m.fr=h/\m.id=f.id then(if f.kind=6 then bgS s f.qb m.to else if f.kind=5/\m.sent≠[]/\f.n=m.n then akS s f.qb m else s)else s
abbrev ne2 (a:gF) (b:fo) (t u:iO):Prop:=((a:fo) !=b)=t/\((a:fo)==b)=u
theorem Pg (h:a≠b):ne2 a b η θ:=⟨by simp;omega,by simp;omega⟩
theorem Pz (h:a=b):ne2 a b θ η:=by subst h;exact⟨by simp,by simp⟩
theorem VL {E:gF->gF->iO->iO->Prop} (n:∀{a b:gF},a≠b->E a b η θ) (q:∀{a b:gF},a=b->E a b θ η) (s:St) (h:gF) (f:Fr) (m:Mv):E m.fr h η θ/\rpM s h f m=s\/E m.fr h θ η/\(E m.id f.id η θ/\rpM s h f m=s\/E m.id f.id θ η/\(ne2 f.kind 6 θ η/\rpM s h f m=bgS s f.qb m.to\/ne2 f.kind 6 η θ/\(ne2 f.kind 5 η θ/\rpM s h f m=s\/ne2 f.kind 5 θ η/\(m.sent.isEmpty=η/\rpM s h f m=s\/m.sent.isEmpty=θ/\(E f.n m.n η θ/\rpM s h f m=s\/E f.n m.n θ η/\m.sent≠[]/\rpM s h f m=akS s f.qb m))))):=by
 unfold rpM;by_cases e1:m.fr=h
 .refine .inr ⟨q e1,?_⟩;by_cases e2:m.id=f.id
  .rw[eD ⟨e1,e2⟩];refine .inr ⟨q e2,?_⟩;by_cases e3:f.kind=6;{rw[eD e3];exact .inl ⟨Pz e3,lc⟩}
   .rw[dw e3];refine .inr ⟨Pg e3,?_⟩;by_cases e4:f.kind=5
    .refine .inr ⟨Pz e4,?_⟩;cases e5:m.sent with
     |nil=>exact .inl ⟨lc,dw λx=>x.2.1 lc⟩
     |cons a l=>refine .inr ⟨lc,?_⟩;by_cases e6:f.n=m.n;{exact .inr ⟨q e6,by simp,eD ⟨e4,by simp,e6⟩⟩};exact .inl ⟨n e6,dw λx=>e6 x.2.2⟩
    .exact .inl ⟨Pg e4,dw λx=>e4 x.1⟩
  .exact .inl ⟨n e2,dw λx=>e2 x.2⟩
 .exact .inl ⟨n e1,dw λx=>e1 x.1⟩
abbrev ne3 (a b:gF) (t u:iO):Prop:=((a:fo) !=b)=t/\(a !=b)=t/\ν (a=b)=u
theorem jgm (h:a≠b):ne3 a b η θ:=⟨by simp;omega,by simpa using h,by simpa using h⟩
theorem jf0 (h:a=b):ne3 a b θ η:=by subst h;exact⟨by simp,by simp,by simp⟩
theorem q5c (p:ku w G B s) (q:F6 s) (hh:h<s.hosts) (u:bn) (hu:u.size<=1048576) (iT:jY u.data.toList=ζ f) (qE:f.qb<4) (hl:f.load=[]) (fe:s.mv f.qb=ζ m):ao prog 66 #[ξ (ζ ⟨B.ml,0,ε⟩),σ υ h,Γ u] w (jU w G B (σ υ 0) (rpM s h f m)):=by
 have c0:w.cell? ⟨B.ml,0,ε⟩=ζ (σ υ s.hosts):=(p.cells 0 _ lc).1;have g1:ν ((h:fo)<0)=θ:=xdf (by omega);have g2:ν (s.hosts<=h)=θ:=xdf (by omega);have HR:=Hd (IU (w:=w) u hu);unfold vg at HR;rw[iT]at HR;obtain⟨ld,fK⟩:=qc f.load;have gK:=Hd fK;have gX:ld.toList.isEmpty=f.load.isEmpty:=by rw[ae,fK]
 have H:=Hd p;have pO:((f.qb:fo)<4):=by omega
 have j1:ν ((3:fo)<f.qb)=θ:=xdf (by omega);rw[hl]at gX;replace gX:ld.toList.isEmpty=η:=gX;have O:=Hd qE;have hm:=p.mv f.qb qE;rw[fe]at hm;obtain⟨x,z1,z2,z3,z4,z5,z6,z7⟩:=hm;obtain⟨sb,gM⟩:=qc m.sent;have HS:=Hd gM;have HX:=Hd z1;have lN:=Hd fe;have gT:sb.toList.isEmpty=m.sent.isEmpty:=by rw[ae,gM]
 obtain⟨L,BF,_,BO⟩:=q.mv _ qE m fe;have Kk:=q.ep;have HKL:=Hd (ac (q.kvl _ qE) q.id);have HTO:=Hd BF;have mD:¬(9223372036854775807<m.n+1):=by have:=L.n;omega
 have fG:¬(9223372036854775807<s.ep+1):=by omega
 have HAK:=Hd BO;have hw:=VL jgm jf0 s h f m;rw[<-gT]at hw;clear p q iT fK hu hl fe z1 z2 z3 z4 z5 z6 z7 gM gT L BF Kk BO;rcases hw with⟨i1,I⟩|⟨i1,⟨i2,I⟩|⟨i2,⟨i3,I⟩|⟨i3,⟨i5,I⟩|⟨i5,⟨i6,I⟩|⟨i6,⟨i7,I⟩|⟨i7,he,I⟩⟩⟩⟩⟩⟩;all_goals
  dsimp only[ne2,ne3]at*;rw[I];clear I;go_enter func66,ntmps66;go_wp2_with (go_at_call 104;refine HR.mono ?_;rintro e w1 ⟨rfl,Y⟩;rw[yF gK.o];have B1:=Hd Y;clear Y)
  obtain⟨W,E⟩:∃W,w1.alloc (ω #[σ υ f.kind,σ υ f.qb,σ υ f.id,σ υ f.n,Γ ld] 182)=W:=⟨_,lc⟩
  have D:=Hd (OfW.of (f:=f) H.o B1.o gK.o);rw[E]at D|-;clear E B1;generalize w1.heap.size=fb at D|-;obtain⟨_,k1,_⟩:=D.cells gK.o;have c1:W.cell? ⟨B.ml,1,ε⟩=ζ (Δ (ζ ⟨B.sb,0,ε⟩) 4 B.cap):=(D.m.cells 1 _ lc).1;go_quiet (fail);have D1:=Hd (D.drewN nq);generalize W.drewN nq=V at D1|-;clear D k1 c1;obtain⟨k0,k1,k2,k3,J,_⟩:=D1.cells gK.o;obtain⟨_,_,cV,_⟩:=D1.m.sbc O.o;rw[HX.o]at cV;replace cV:V.cell? ⟨B.sb,f.qb*3+2,ε⟩=ζ (ξ (ζ ⟨x,0,ε⟩)):=cV;go_wp2;obtain⟨d0,d1,_⟩:=(D1.dn O.o lN.o HX.o).IK HS.o;go_quiet (fail)
 iterate 2
  .go_wp2;go_ret;exact .idleB H.o ((D1.drewN nq).b)
 all_goals
  have D2:=Hd (D1.drewN nq);generalize V.drewN nq=V2 at D2|-;clear D1 d0 d1 k0 k1 k2 k3 J cV;obtain⟨k0,k1,k2,k3,J,_⟩:=D2.cells gK.o
 .obtain⟨_,_,d2,_⟩:=(D2.dn O.o lN.o HX.o).IK HS.o;go_wp2;go_region_with (go_at_call 59;refine(WT (D2.idle (by first|exact But.refl _ _|exact il (qy _ _).drew)).m O.o HKL.1 m.to HKL.2).mono ?_;intro e w3 h3;have h4:=jU.lift (D2.idle (by first|exact But.refl _ _|exact il (qy _ _).drew)).b h3;clear h3;obtain⟨rfl,h4⟩:=h4;have H4:=Hd h4;clear h4)
  all_goals go_wp2
  all_goals go_ret
  all_goals exact⟨lc,H4.o⟩
 all_goals
  obtain⟨d5,d6,d7,d8,d3,d4,df⟩:=(D2.dn O.o lN.o HX.o).cells3 HS.o;go_wp2;go_quiet (fail);have d:=Hd (D2.drewN nq);generalize V2.drewN nq=V3 at d|-;clear D2 d5 d6 d7 d8 d3 d4 df k0 k1 k2 k3 J
 iterate 3
  .go_wp2;go_ret;exact .idleB H.o d.b
 have N0:=Hd (d.dn O.o lN.o HX.o);obtain⟨d5,d6,d7,d8,d3,d4,df⟩:=N0.out.cells3 HS.o;have T:=Hd ((N0.out.stores 5 (Γ ⟨#[]⟩) (pv':=B.pv f.qb) (cv':=B.cv f.qb) (m':={m with sent:=[]}) lc).stores 6 (σ υ ((m.n:fo)+1)) (pv':=B.pv f.qb) (cv':=B.cv f.qb) (m':={m with sent:=[],n:=m.n+1}) lc);have gL:=d.m.mv f.qb O.o;rw[lN.o]at gL;obtain⟨_,_,_,_,y4,y5,_,_⟩:=gL;have HY:=Hd (ac y4 y5);clear y4 y5;have BO:=HAK.o he;clear he;by_cases J:m.kind=4
 .have j2:((m.kind:fo)==2)=θ:=by simp[J]
  have j3:((m.kind:fo)==3)=θ:=by simp[J]
  have j4:((m.kind:fo)==4)=η:=by simp[J]
  have P:=Hd (show akS s f.qb m=hoS s f.qb m from eD J);clear J BO;obtain⟨_,_,d2,_⟩:=N0.out.IK HS.o;obtain⟨e0,U,z,ef⟩:=d.m.sbc O.o;have e4:V3.cell? ⟨B.ml,4,ε⟩=ζ (σ υ s.ep):=(d.m.cells 4 _ lc).1;have ef4:V3.frozen? ⟨B.ml,4,ε⟩=θ:=(d.m.cells 4 (σ υ s.ep) lc).2;obtain⟨cur,q1,_⟩:=d.m.sb.2;have Oh:B.sb≠x:=λe=>by have Y:=N0.out.b;rw[<-e,q1]at Y;exact gY (jc Y) (by decide)
  have hmx:B.ml≠x:=λe=>by have Y:=N0.out.b;rw[<-e,d.m.ml.2]at Y;exact gY (jc Y) (by decide)
  have kP:B.ml≠B.sb:=λe=>by rw[<-e,d.m.ml.2]at q1;exact gY (jc q1) (by decide)
  clear q1;have NV:=QH d.m.yc HTO.o O.o;have yZ:=Hd (ac (show m.to<256 by have:=HTO.o;omega) (show f.qb<256 by omega));go_wp2;have C:=Hd (CmW.come (to:=m.to) d.o O.o lN.o HX.o T.out lc lc);obtain⟨W,E⟩:∃W,((((((V3.setCell ⟨x,5,ε⟩ (Γ ⟨#[]⟩)).setCell ⟨x,6,ε⟩ (σ υ ((m.n:fo)+1))).setCell ⟨B.sb,f.qb*3,ε⟩ (σ υ m.to)).setCell ⟨B.sb,f.qb*3+1,ε⟩ (Δ ε 0 0)).setCell ⟨B.sb,f.qb*3+2,ε⟩ (.pointer ε)).setCell ⟨B.ml,4,ε⟩ (σ υ ((s.ep:fo)+1)))=W:=⟨_,lc⟩
  rw[E]at C|-;clear E d5 d6 d7 d8 d3 d4 df d2 e0 U z ef e4 ef4 Oh hmx kP N0 T;obtain⟨k1,r0,r2,c2⟩:=C.out.cells;rcases NV with⟨U,wm⟩|⟨j,e,U,hj,he,hh1,Dm,ni⟩
  .have HO:Hid (hoS s f.qb m={s with ow:=qf s.ow f.qb m.to,kv:=vv s.kv f.qb [],mv:=qf s.mv f.qb ε,ep:=s.ep+1}):=Hd (by unfold hoS hoK;rw[wm]);obtain⟨q,I,eZ⟩:∃q:fo,stV B.sl m.to f.qb=q/\ν ((0:fo)<=q)=θ:=⟨_,U,by decide⟩
   have HE:=Hd I;clear U wm I;go_region_with (go_at_call 105;refine(I5 (C.out.idle (by first|exact But.refl _ _|exact il (qy _ _).drew)).p m.to f.qb yZ.1 yZ.2).mono ?_;rw[HE.o];rintro e9 w3 ⟨rfl,h3⟩;have C2:=Hd ((C.out.idle (by first|exact But.refl _ _|exact il (qy _ _).drew)).idle h3);clear h3)
   all_goals
    go_wp2;refine wp_region_quiet_lit (by kernel_rfl) (by kernel_rfl) ?_
    quiet_step (fail)
    repeat (go_big_quiet_step (fail))
    refine wpQuiet_nil ?_;intro _ oW;obtain⟨nq,uK⟩:=oW;subst uK;go_wp2;go_ret;rw[P.o,HO.o];exact(C2.out.drewN nq).Rs lc
  .obtain⟨L1,L2,hs,iR⟩:∃L1 L2,B.sl=L1++e::L2/\L1.length=j:=by obtain⟨Y,rfl⟩:=ai.1 he;exact⟨B.sl.take j,B.sl.drop (j+1),by rw[<-List.drop_eq_getElem_cons Y,List.take_append_drop],by simp;omega⟩
   subst iR;have uG:=Hd hs;clear hs;obtain⟨R,cp,hv⟩:=jq d.m.yc.r;obtain⟨_,g,rfl,_⟩:=d.m.yc.cells hv he;have HV:Hid (B.sg=Δ (ζ ⟨g,0,ε⟩) B.sl.length cp):=Hd hv;obtain⟨qP,rM,iH⟩:=jq (d.m.yc.e e (aq he)).2.2.2.1.1;have Ic:=Hd iH;have HJ:=Hd he;have hgeq:ν ((0:fo)<=L1.length)=η:=xdt (by omega);have kS:(((e.x.id:fo)==m.id)=θ/\(e.x.id==m.id)=θ/\ν (e.x.id=m.id)=θ)/\Hid (hoK s f.qb m=ε)\/(((e.x.id:fo)==m.id)=η/\(e.x.id==m.id)=η/\ν (e.x.id=m.id)=η)/\(e.x.done=θ/\Hid (hoK s f.qb m=ε)\/e.x.done=η/\Hid (hoK s f.qb m=ζ e.x)):=by unfold hoK;rw[ni];by_cases z:e.x.id=m.id;{refine .inr ⟨by simp[z],?_⟩;cases hd:e.x.done;{exact .inl ⟨lc,Hd (by simp[hd])⟩};exact .inr ⟨lc,Hd (by simp[hd,z])⟩};exact .inl ⟨by simp;omega,Hd (by simp[z])⟩
   have HE:=Hd U;have HH:=Hd (ac hh1 (ac Dm ni));clear U hh1 Dm ni hv he iH;go_region_with (go_at_call 105;refine(I5 (C.out.idle (by first|exact But.refl _ _|exact il (qy _ _).drew)).p m.to f.qb yZ.1 yZ.2).mono ?_;rw[HE.o];rintro e9 w3 ⟨rfl,h3⟩;have C2:=Hd ((C.out.idle (by first|exact But.refl _ _|exact il (qy _ _).drew)).idle h3);clear h3)
   all_goals
    go_wp2;obtain⟨k1,r0,r2,c2⟩:=C2.out.cells;obtain⟨_,_,_,s2,_,s4,s5,sf⟩:=C2.out.p.yc.Aa HV.o HJ.o;rw[HV.o]at c2;rw[Ic.o]at s4;rcases kS with⟨i8,HK⟩|⟨i8,⟨hd,HK⟩|⟨hd,HK⟩⟩
    .have HO:Hid (hoS s f.qb m={s with ow:=qf s.ow f.qb m.to,kv:=vv s.kv f.qb [],mv:=qf s.mv f.qb ε,ep:=s.ep+1}):=Hd (by unfold hoS;rw[HK.o]);refine wp_region_quiet_lit (by kernel_rfl) (by kernel_rfl) ?_
     quiet_step (fail)
     repeat (go_big_quiet_step (fail))
     refine wpQuiet_nil ?_;intro _ oW;obtain⟨nq,uK⟩:=oW;subst uK;go_wp2;go_ret;rw[P.o,HO.o];exact(C2.out.drewN nq).Rs lc
    .have HO:Hid (hoS s f.qb m={s with ow:=qf s.ow f.qb m.to,kv:=vv s.kv f.qb [],mv:=qf s.mv f.qb ε,ep:=s.ep+1}):=Hd (by unfold hoS;rw[HK.o]);rw[hd]at s5;clear hd;refine wp_region_quiet_lit (by kernel_rfl) (by kernel_rfl) ?_
     quiet_step (fail)
     repeat (go_big_quiet_step (fail))
     refine wpQuiet_nil ?_;intro _ oW;obtain⟨nq,uK⟩:=oW;subst uK;go_wp2;go_ret;rw[P.o,HO.o];exact(C2.out.drewN nq).Rs lc
    .rw[hd]at s5;clear hd;refine wp_region_quiet_lit (by kernel_rfl) (by kernel_rfl) ?_
     quiet_step (fail)
     repeat (go_big_quiet_step (fail))
     refine wpQuiet_nil ?_;intro _ oW;obtain⟨nq,uK⟩:=oW;subst uK;have t:=Hd (C2.out.drewN nq);generalize w3.drewN nq=V4 at t|-;obtain⟨_,_,_,c2⟩:=t.out.cells;replace c2:V4.cell? ⟨B.ml,2,ε⟩=ζ (Δ (ζ ⟨g,0,ε⟩) B.sl.length cp):=c2.trans (gU ζ HV.o);obtain⟨_,_,_,_,_,s4,_,sf⟩:=t.out.p.yc.Aa HV.o HJ.o;rw[Ic.o]at s4;obtain⟨_,b1,_,bf⟩:=t.out.p.sbc O.o;obtain⟨cur,q1,_⟩:=t.out.p.sb.2;have kP:B.ml≠B.sb:=λe=>by have Y:=t.out.p.ml.2;rw[show _=B.sb from e,show V4.heap[B.sb]?=_ from q1]at Y;exact gY (jc Y) (by decide)
     have ER:=(t.out.p.yc.e e (aq HJ.o)).2.2.2;have C5:=Hd (t.out.step (q:=B.sb) (i:=f.qb*3+1) q1 (by decide) (by decide) t.out.p.sb.1 (t.out.p.store O.o (v:=.slice qP e.x.kv.length rM) (X:=e.x.kv) (Ic.o▸ER.1) (λb hb=>ER.2 b (Ic.o▸hb))));have HO:Hid (hoS s f.qb m={s with ow:=qf s.ow f.qb m.to,kv:=vv (vv s.kv f.qb []) f.qb e.x.kv,mv:=qf s.mv f.qb ε,sg:=vz s.sg e.h e.k ε,ep:=s.ep+1}):=Hd (by
      have z:vv (vv s.kv f.qb []) f.qb e.x.kv=vv s.kv f.qb e.x.kv:=by funext i;unfold vv;split<;>rfl
      unfold hoS
      rw[HK.o,z,HH.1,HH.2.1])
     have HG:Hid (g<V4.heap.size/\B.ml<V4.heap.size/\w.heap.size<=V4.heap.size):=Hd ⟨(t.out.p.yc.r.lt g (by rw[show _=B.sg from lc,HV.o];rfl)).2,(j5 t.out.p.ml.2).1,t.out.b.size⟩;have BM:B.sl.length<=cp:=by rcases t.out.p.yc.r.2 with⟨U,_⟩|⟨g',cap,cur,U,_,_,h4,_⟩;{rw[show _=B.sg from lc,HV.o]at U;cases U};rw[show _=B.sg from lc,HV.o]at U;cases U;exact h4
     have hcp2:L1.length<=cp:=by omega
     have uH:Hid (∀i u,(vk L1)[i]?=ζ u->(V4.setCell ⟨B.sb,f.qb*3+1,ε⟩ (.slice qP e.x.kv.length rM)).cell? ⟨g,0+i,ε⟩=ζ u):=Hd λi u hu=>by
      have h5:(vk B.sl)[i]?=ζ u:=by rw[uG.o,QO,List.getElem?_append_left (ai.1 hu).1];exact hu
      have h6:=C5.out.p.yc.r.cells (g:=g) (by rw[show _=B.sg from lc,HV.o];rfl) _ _ h5;rwa [ax]at h6
     have jJ:=Hd (Xk L1 λq I=>by
      obtain⟨R,cq,e3⟩:=jq (C5.out.p.yc.e q (by rw[show _=B.sl from lc,uG.o];exact am.2 (.inl I))).2.2.2.1.1
      exact⟨R,_,cq,e3⟩)
     have mH:Hid (([]:gJ RSg).length+L1.length<=16):=Hd (by have:=t.out.p.yc.few;replace this:B.sl.length<=16:=this;simp;omega);clear q1 ER;go_upto_region 31 with(at_builtin;refine wpList_plain lc λ_ hK=>PG (L1:=[]) (L2:=L1) (wA:=V4.setCell ⟨B.sb,f.qb*3+1,ε⟩ (.slice qP e.x.kv.length rM)) (v:=Δ ε 0 0) (g:=g) (off:=0) (c:=cp) (.const (Δ ε 0 0)) (.tmp 215) lc lc ⟨aj _ _ _ _,But.refl _ _⟩ lc uH.o jJ.o mH.o λv2 w7 h7 _=>?_;have H7:=Hd h7;clear h7;refine hK _ _ ?_)
     have C7:=Hd (C5.out.idle H7.b);have m2:w7.cell? ⟨B.ml,2,ε⟩=ζ (Δ (ζ ⟨g,0,ε⟩) B.sl.length cp):=C7.out.cells.2.2.2.trans (gU ζ HV.o);have m2f:w7.frozen? ⟨B.ml,2,ε⟩=θ:=(C7.out.p.cells 2 B.sg lc).2;have hcp3:L1.length+1<=B.sl.length:=by omega
     have nR:B.sl.length-(L1.length+1)=L2.length:=by rw[uG.o];simp;omega
     have hcp4:B.sl.length<=cp:=BM;have HD1:Hid (∀o',(L2.length≠0->o'=(L1.length+1)*6)->∀i u,(vk L2)[i]?=ζ u->w7.cell? ⟨g,o'+i,ε⟩=ζ u):=Hd λo' vF i u hu=>by
      have hi:=(ai.1 hu).1;rw[Jo]at hi;rw[vF (by omega)];have h5:(vk B.sl)[(L1.length+1)*6+i]?=ζ u:=by rw[uG.o,show L1++e::L2=(L1++[e])++L2 by simp,QO,List.getElem?_append_right (by rw[Jo];simp),Jo];rw[show(L1.length+1)*6+i-(L1++[e]).length*6=i by simp];exact hu
      have h6:=C7.out.p.yc.r.cells (g:=g) (by rw[show _=B.sg from lc,HV.o];rfl) _ _ h5;rwa [ax,aD]at h6
     have HD2:=Hd (Xk L2 λq I=>by
      obtain⟨R,cq,e3⟩:=jq (C7.out.p.yc.e q (by rw[show _=B.sl from lc,uG.o];exact am.2 (.inr (.tail _ I)))).2.2.2.1.1
      exact⟨R,_,cq,e3⟩)
     have TY:Hid (L1.length+L2.length<=16):=Hd (by have:=t.out.p.yc.few;replace this:B.sl.length<=16:=this;omega);have HL2:=Hd nR;have EZ:¬(9223372036854775807<L1.length+1):=by have:=TY.o;omega
     have jlz:(cp=L1.length+1/\L2.length=0)\/¬cp=L1.length+1:=by omega
     clear nR;rcases jlz with⟨h8,h9⟩|h8
     .have HZ:=Hd h9;clear h9;go_wp2_with (at_builtin;refine wpList_plain lc λ_ hK=>PG (L1:=L1) (L2:=L2) (v:=v2) (g:=g) (off:=0) (.tmp 218) (.tmp 225) lc lc H7.o (gU (λq=>Value.slice (ζ ⟨g,0,ε⟩) q _) HL2.o) (HD1.o 0 λh=>gY HZ.o h) HD2.o TY.o λv3 w9 h9 _=>?_;obtain⟨rO,sI,e3⟩:=jq h9.r;subst e3;have H9:=Hd h9;clear h9;have S:=Hd (C5.out.idle H9.b);have m9:w9.cell? ⟨B.ml,2,ε⟩=ζ (Δ (ζ ⟨g,0,ε⟩) B.sl.length cp):=S.out.cells.2.2.2.trans (gU ζ HV.o);have m9f:w9.frozen? ⟨B.ml,2,ε⟩=θ:=(S.out.p.cells 2 B.sg lc).2;refine hK _ _ ?_)
      go_ret;rw[P.o,HO.o];have M:=ku.Rb S.out.p (F':=λb=>G b\/V4.heap.size<=b) (λ_ h=>.inl h) (ve.jka S.out.p.yc uG.o (row0 H9.r) λb hb=>by have:=(H9.r.lt b hb).1;simpa using this);rw[show(L1++L2).length=L1.length+L2.length from az]at M;refine⟨lc,_,?_,M.1.mono λb h=>h.imp id λq=>xlt HG.2.2 q,S.out.b.trans (M.2.mono λ_ e=>e▸S.out.p.ml.1)⟩;rfl
     .go_wp2_with (at_builtin;refine wpList_plain lc λ_ hK=>PG (L1:=L1) (L2:=L2) (v:=v2) (g:=g) (off:=(L1.length+1)*6) (.tmp 218) (.tmp 225) lc lc H7.o (gU (λq=>Value.slice (ζ ⟨g,(L1.length+1)*6,ε⟩) q _) HL2.o) (HD1.o _ λ_=>lc) HD2.o TY.o λv3 w9 h9 _=>?_;obtain⟨rO,sI,e3⟩:=jq h9.r;subst e3;have H9:=Hd h9;clear h9;have S:=Hd (C5.out.idle H9.b);have m9:w9.cell? ⟨B.ml,2,ε⟩=ζ (Δ (ζ ⟨g,0,ε⟩) B.sl.length cp):=S.out.cells.2.2.2.trans (gU ζ HV.o);have m9f:w9.frozen? ⟨B.ml,2,ε⟩=θ:=(S.out.p.cells 2 B.sg lc).2;refine hK _ _ ?_)
      go_ret;rw[P.o,HO.o];have M:=ku.Rb S.out.p (F':=λb=>G b\/V4.heap.size<=b) (λ_ h=>.inl h) (ve.jka S.out.p.yc uG.o (row0 H9.r) λb hb=>by have:=(H9.r.lt b hb).1;simpa using this);rw[show(L1++L2).length=L1.length+L2.length from az]at M;refine⟨lc,_,?_,M.1.mono λb h=>h.imp id λq=>xlt HG.2.2 q,S.out.b.trans (M.2.mono λ_ e=>e▸S.out.p.ml.1)⟩;rfl
 by_cases k2:m.kind=2
 .have j2:((m.kind:fo)==2)=η:=by simp[k2]
  have mr:=BO.k2 k2;have P:=Hd (show akS s f.qb m={s with mv:=qf s.mv f.qb (ζ {m with sent:=[],ps:=m.ps.drop m.parts,n:=m.n+1})} by unfold akS akM;rw[dw J,eD k2]);obtain⟨R,cp,q,q1,q2⟩:=jo.shape HY.1;have kk1:ν ((m.parts:fo)<=m.ps.length)=η:=xdt (by omega);have HQ:=Hd q;have gH:=HY.1.2;rw[q]at gH;have zA:Hid (R=ε/\m.ps.length=0\/∃g off,R=ζ ⟨g,off,ε⟩):=Hd (by
   rcases gH with⟨e,z⟩|⟨g,off,cap,cur,e,_⟩;{injection e with a1 a2 a3;exact .inl ⟨a1,z⟩}
   .injection e with a1 a2 a3;exact .inr ⟨g,off,a1⟩)
  clear gH q q1 q2 BO k2 J;have HD:Hid (∀(W:ah) (jL:jb Addr),DnW V3 x (.slice jL (m.ps.length-m.parts) (cp-m.parts)) (B.cv f.qb) {m with sent:=[],ps:=m.ps.drop m.parts,n:=m.n+1} W->(∀g off,R=ζ ⟨g,off,ε⟩->jL=if cp=m.parts then ζ ⟨g,off,ε⟩else ζ ⟨g,off+m.parts*2,ε⟩)->(R=ε->jL=ε)->
    jU w G B (σ υ 0) {s with mv:=qf s.mv f.qb (ζ {m with sent:=[],ps:=m.ps.drop m.parts,n:=m.n+1})} (ψ (σ υ 0)) W):=Hd λW jL E iE mq=>by
   have hr:=HY.1;rw[HQ.o]at hr;have hc:=jo.cut hr mr iE mq;have gL:nV V3 (.slice jL (m.ps.length-m.parts) (cp-m.parts)) (m.ps.drop m.parts):=by unfold nV;rw[aI,show flat (m.ps.drop m.parts)=(flat m.ps).drop (m.parts*2)from(Ng _ _).symm];exact hc
   have fJ:∀b,(Value.slice jL (m.ps.length-m.parts) (cp-m.parts)).ownBlock=ζ b->(B.pv f.qb).ownBlock=ζ b:=λb fZ=>by rw[HQ.o];rcases zA.o with⟨e,_⟩|⟨g,off,e⟩;{rw[mq e]at fZ;cases fZ};rw[iE g off e]at fZ;rw[e];split at fZ<;>exact fZ
   exact d.Rw O.o lN.o HX.o E gL HY.2 fJ (λ_ h=>h)
  rw[HQ.o]at d3;rcases zA.o with⟨e,z⟩|⟨g,off,e⟩;all_goals
   subst e;try clear z
   go_wp2;obtain⟨W,E⟩:∃W,(V3.setCell ⟨x,5,ε⟩ (Γ ⟨#[]⟩)).setCell ⟨x,6,ε⟩ (σ υ ((m.n:fo)+1))=W:=⟨_,lc⟩
   rw[E]at T|-;clear E d5 d6 d7 d8 d3 d4 df;obtain⟨d5,d6,d7,d8,d3,d4,df⟩:=T.out.cells3 (sb:=⟨#[]⟩) lc;rw[HQ.o]at d3;refine aA 12 (by kernel_rfl) (by kernel_rfl) ?_;change wpStill _ _ W.drew (λa'=>wpList _ _ _ _ a' W.drew) _ _;simp only[aB,aO,aC,aP];repeat still_step
   refine aY ?_;go_wp2
  .go_ret;rw[P.o];exact HD.o _ ε ((T.out.stores 3 (.slice ε (m.ps.length-m.parts) (cp-m.parts)) (cv':=B.cv f.qb) (m':={m with sent:=[],ps:=m.ps.drop m.parts,n:=m.n+1}) lc).below (qy _ _).drew) (λg off e=>(by cases e)) (λ_=>lc)
  .have h0:cp-m.parts=0:=by omega
   have hD:=HD.o;rw[h0]at hD;go_ret;rw[P.o];exact hD _ (ζ ⟨g,off,ε⟩) ((T.out.stores 3 (Δ (ζ ⟨g,off,ε⟩) (m.ps.length-m.parts) 0) (cv':=B.cv f.qb) (m':={m with sent:=[],ps:=m.ps.drop m.parts,n:=m.n+1}) lc).below (qy _ _).drew) (λg off e=>(by cases e;rw[eD (by omega)])) (λe=>(by cases e))
  .go_ret;rw[P.o];exact HD.o _ (ζ ⟨g,off+m.parts*2,ε⟩) ((T.out.stores 3 (Δ (ζ ⟨g,off+m.parts*2,ε⟩) (m.ps.length-m.parts) (cp-m.parts)) (cv':=B.cv f.qb) (m':={m with sent:=[],ps:=m.ps.drop m.parts,n:=m.n+1}) lc).below (qy _ _).drew) (λg off e=>(by cases e;rw[dw (by omega)])) (λe=>(by cases e))
 have j2:((m.kind:fo)==2)=θ:=by simp;omega
 by_cases k3:m.kind=3
 .have j3:((m.kind:fo)==3)=η:=by simp[k3]
  have mr:=BO.k3 k3;have P:=Hd (show akS s f.qb m={s with mv:=qf s.mv f.qb (ζ {m with sent:=[],cs:=m.cs.drop m.parts,n:=m.n+1})} by unfold akS akM;rw[dw J,dw k2,eD k3]);obtain⟨R,cp,q,q1,q2⟩:=jo.shape HY.2;have kk1:ν ((m.parts:fo)<=m.cs.length)=η:=xdt (by omega);have HQ:=Hd q;have gH:=HY.2.2;rw[q]at gH;have zA:Hid (R=ε/\m.cs.length=0\/∃g off,R=ζ ⟨g,off,ε⟩):=Hd (by
   rcases gH with⟨e,z⟩|⟨g,off,cap,cur,e,_⟩;{injection e with a1 a2 a3;exact .inl ⟨a1,z⟩}
   .injection e with a1 a2 a3;exact .inr ⟨g,off,a1⟩)
  clear gH q q1 q2 BO k2 k3 J;have HD:Hid (∀(W:ah) (jL:jb Addr),DnW V3 x (B.pv f.qb) (.slice jL (m.cs.length-m.parts) (cp-m.parts)) {m with sent:=[],cs:=m.cs.drop m.parts,n:=m.n+1} W->(∀g off,R=ζ ⟨g,off,ε⟩->jL=if cp=m.parts then ζ ⟨g,off,ε⟩else ζ ⟨g,off+m.parts*3,ε⟩)->(R=ε->jL=ε)->
    jU w G B (σ υ 0) {s with mv:=qf s.mv f.qb (ζ {m with sent:=[],cs:=m.cs.drop m.parts,n:=m.n+1})} (ψ (σ υ 0)) W):=Hd λW jL E iE mq=>by
   have hr:=HY.2;rw[HQ.o]at hr;have hc:=jo.cut hr mr iE mq;have gL:pX V3 (.slice jL (m.cs.length-m.parts) (cp-m.parts)) (m.cs.drop m.parts):=by unfold pX;rw[aI,show kg (m.cs.drop m.parts)=(kg m.cs).drop (m.parts*3)from(QR _ _).symm];exact hc
   have fJ:∀b,(Value.slice jL (m.cs.length-m.parts) (cp-m.parts)).ownBlock=ζ b->(B.cv f.qb).ownBlock=ζ b:=λb fZ=>by rw[HQ.o];rcases zA.o with⟨e,_⟩|⟨g,off,e⟩;{rw[mq e]at fZ;cases fZ};rw[iE g off e]at fZ;rw[e];split at fZ<;>exact fZ
   exact d.Rw O.o lN.o HX.o E HY.1 gL (λ_ h=>h) fJ
  rw[HQ.o]at d4;rcases zA.o with⟨e,z⟩|⟨g,off,e⟩;all_goals
   subst e;try clear z
   go_wp2;obtain⟨W,E⟩:∃W,(V3.setCell ⟨x,5,ε⟩ (Γ ⟨#[]⟩)).setCell ⟨x,6,ε⟩ (σ υ ((m.n:fo)+1))=W:=⟨_,lc⟩
   rw[E]at T|-;clear E d5 d6 d7 d8 d3 d4 df;obtain⟨d5,d6,d7,d8,d3,d4,df⟩:=T.out.cells3 (sb:=⟨#[]⟩) lc;rw[HQ.o]at d4;refine aA 12 (by kernel_rfl) (by kernel_rfl) ?_;change wpStill _ _ W.drew (λa'=>wpList _ _ _ _ a' W.drew) _ _;simp only[aB,aO,aC,aP];repeat still_step
   refine aY ?_;go_wp2
  .go_ret;rw[P.o];exact HD.o _ ε ((T.out.stores 4 (.slice ε (m.cs.length-m.parts) (cp-m.parts)) (pv':=B.pv f.qb) (m':={m with sent:=[],cs:=m.cs.drop m.parts,n:=m.n+1}) lc).below (qy _ _).drew) (λg off e=>(by cases e)) (λ_=>lc)
  .have h0:cp-m.parts=0:=by omega
   have hD:=HD.o;rw[h0]at hD;go_ret;rw[P.o];exact hD _ (ζ ⟨g,off,ε⟩) ((T.out.stores 4 (Δ (ζ ⟨g,off,ε⟩) (m.cs.length-m.parts) 0) (pv':=B.pv f.qb) (m':={m with sent:=[],cs:=m.cs.drop m.parts,n:=m.n+1}) lc).below (qy _ _).drew) (λg off e=>(by cases e;rw[eD (by omega)])) (λe=>(by cases e))
  .go_ret;rw[P.o];exact HD.o _ (ζ ⟨g,off+m.parts*3,ε⟩) ((T.out.stores 4 (Δ (ζ ⟨g,off+m.parts*3,ε⟩) (m.cs.length-m.parts) (cp-m.parts)) (pv':=B.pv f.qb) (m':={m with sent:=[],cs:=m.cs.drop m.parts,n:=m.n+1}) lc).below (qy _ _).drew) (λg off e=>(by cases e;rw[dw (by omega)])) (λe=>(by cases e))
 have P:=Hd (show akS s f.qb m={s with mv:=qf s.mv f.qb (ζ {m with sent:=[],n:=m.n+1})} by unfold akS akM;rw[dw J,dw k2,dw k3]);have j3:((m.kind:fo)==3)=θ:=by simp;omega
 have j4:((m.kind:fo)==4)=θ:=by simp;omega
 clear BO k2 k3 J;go_wp2;go_ret;rw[P.o];exact d.Rw O.o lN.o HX.o T.out HY.1 HY.2 (λ_ h=>h) (λ_ h=>h)
theorem q5b (p:ku w G B s) (h:fo) (u:bn) (d:h<0\/s.hosts<=h):ao prog 66 #[ξ (ζ ⟨B.ml,0,ε⟩),σ υ h,Γ u] w (jU w G B (σ υ 1) s):=by have c0:w.cell? ⟨B.ml,0,ε⟩=ζ (σ υ s.hosts):=(p.cells 0 _ lc).1;have H:=Hd p;clear p;by_cases uQ:h<0;{have i:ν (h<0)=η:=xdt uQ;clear d uQ;go_enter func66,ntmps66;go_wp2;go_ret;exact .idleB H.o (But.refl _ _)};have i:ν (h<0)=θ:=xdf uQ;have r:ν (s.hosts<=h)=η:=xdt (by omega);clear d uQ;go_enter func66,ntmps66;go_wp2;go_ret;exact .idleB H.o (But.refl _ _)
theorem jap (p:ku w G B s) (I:h<s.hosts) (u:bn) (t:u.size<=1048576) (z:jY u.data.toList=ε):ao prog 66 #[ξ (ζ ⟨B.ml,0,ε⟩),σ υ h,Γ u] w (jU w G B (σ υ 0) s):=by
 have c0:w.cell? ⟨B.ml,0,ε⟩=ζ (σ υ s.hosts):=(p.cells 0 _ lc).1;have D:ν ((h:fo)<0)=θ:=xdf (by omega);have E:ν (s.hosts<=h)=θ:=xdf (by omega);have d:=Hd (IU (w:=w) u t);unfold vg at d;rw[z]at d;have H:=Hd p;clear p z t;go_enter func66,ntmps66;go_wp2_with (go_at_call 104;refine d.mono ?_;rintro e w1 ⟨⟨f,rfl⟩,r⟩;obtain⟨ld,i⟩:=qc f.load;rw[yF i];have C:=Hd r;clear r i)
 go_ret;exact .idleB H.o (C.trans (il ((qy _ _).alloc (jg _) _)))
theorem q5a (p:ku w G B s) (q:F6 s) (h:fo) (u:bn) (i:u.size<=1048576):ao prog 66 #[ξ (ζ ⟨B.ml,0,ε⟩),σ υ h,Γ u] w (jU w G B (σ υ (rpE s h)) (rpS s h u.data.toList)):=by
 unfold rpE rpS;by_cases ho:h<0\/s.hosts<=h;{rw[eD ho,eD ho];exact q5b p h u ho};rw[dw ho,dw ho];obtain⟨h,rfl⟩:∃n:gF,h=n:=⟨h.toNat,by omega⟩
 have d:h<s.hosts:=by omega
 rw[aG];cases iT:jY u.data.toList with
 |none=>exact jap p d u i iT
 |some f=>
  simp only;unfold rpF;by_cases fP:f.qb<4/\f.load=[]
  .rw[eD fP];obtain⟨t,r⟩:=fP;cases hm:s.mv f.qb with
   |none=>exact q5d p d u i iT t r hm
   |some m=>simp only;exact q5c p q d u i iT t r hm
  .rw[dw fP];exact jao p d u i iT fP
theorem jck (p:zx w F A s) (q:F6 s) (hh:h<s.hosts) (u:bn) (hu:u.size<=268435456) (X:jY u.data.toList=ζ f) (V:f.qb<4) (T:f.load=[]) (U:s.mv f.qb=ε):ao prog 65 #[ξ (ζ ⟨A.cl,0,ε⟩),σ υ h,Γ u] w (kD w F A (σ υ 0) (s)):=by
 have c0:w.cell? ⟨A.cl,0,ε⟩=ζ (σ υ s.hosts):=(p.cells 0 _ lc).1;have H:=Hd p;have Q:=Hd q;have g1:ν ((h:fo)<0)=θ:=xdf (by omega);have g2:ν (s.hosts<=h)=θ:=xdf (by omega);have M:=Hd (Iw (w:=w) u (by omega));unfold vg at M;rw[X]at M;obtain⟨ld,P⟩:=qc f.load;have d:=Hd P;have j0:(0:fo)<=f.qb:=by omega
 have j1:ν ((4:fo)<=f.qb)=θ:=xdf (by omega);have j2:(f.qb:fo)<4:=by omega
 have gX:ld.toList.isEmpty=η:=by rw[ae,P,T];rfl
 have O:=Hd (ac V hh);have L:=Hd U;clear U;clear p q X P T V;go_enter func65,ntmps65;go_wp2_with (go_at_call 101;refine M.mono ?_;rintro e w1 ⟨rfl,R⟩;rw[CJ d.o];have D:=Hd (RpW.of H.o R d.o);clear R)
 obtain⟨W,S⟩:∃W,w1.alloc (ω #[σ Ξ f.kind,σ υ f.qb,σ υ f.id,σ υ f.n,Γ ld] 133)=W:=⟨_,lc⟩
 rw[S]at D|-;clear S;obtain⟨z,C,E,I,J⟩:=D.cells d.o;have t:=D.none O.1 L.o;go_quiet (fail);have i:=Hd (D.drewN nq);generalize W.drewN nq=Y at i|-;clear z C E I J t;obtain⟨z,C,E,I,J⟩:=i.cells d.o;have t:=i.none O.1 L.o;go_wp2;go_quiet (fail);have r:=Hd (i.drewN nq);generalize Y.drewN nq=V2 at r|-;clear z C E I J t;obtain⟨z,C,E,I,J⟩:=r.cells d.o;have t:=r.none O.1 L.o;go_wp2;go_ret;exact r.idle H.o (But.refl _ _)
theorem jcl (p:zx w F A s) (q:F6 s) (hh:h<s.hosts) (u:bn) (hu:u.size<=268435456) (iT:jY u.data.toList=ζ f) (d:f.qb<4) (hl:f.load=[]) (t:s.mv f.qb=ζ m):ao prog 65 #[ξ (ζ ⟨A.cl,0,ε⟩),σ υ h,Γ u] w (kD w F A (σ υ 0) (rpM s h f m)):=by
 have c0:w.cell? ⟨A.cl,0,ε⟩=ζ (σ υ s.hosts):=(p.cells 0 _ lc).1;have H:=Hd p;have Q:=Hd q;have g1:ν ((h:fo)<0)=θ:=xdf (by omega);have g2:ν (s.hosts<=h)=θ:=xdf (by omega);have HR:=Hd (Iw (w:=w) u (by omega));unfold vg at HR;rw[iT]at HR;obtain⟨ld,fK⟩:=qc f.load;have E:=Hd fK;have j0:(0:fo)<=f.qb:=by omega
 have j1:ν ((4:fo)<=f.qb)=θ:=xdf (by omega);have j2:(f.qb:fo)<4:=by omega
 have gX:ld.toList.isEmpty=η:=by rw[ae,fK,hl];rfl
 have HS:=Hd (ac d hh);have HM:=Hd t;obtain⟨x,hx⟩:∃x,A.mp f.qb=ζ x:=by have h0:=p.mv f.qb d;rw[t]at h0;obtain⟨x,z1,_⟩:=h0;exact⟨x,z1⟩
 have HX:=Hd hx;obtain⟨sb,gM⟩:=qc m.sent;have vT:=Hd gM;have gT:sb.toList.isEmpty=m.sent.isEmpty:=by rw[ae,gM]
 have PB:=Hd (λ(V:ah) (pv:zx V F A s)=>Wn pv d (q.kvr _ d) (q.kvl _ d) (q.kvk _ d) m.to q.id);have PA:=Hd (λ(V:ah) (pv:zx V F A s) (Y:m.sent≠[])=>q92 pv d t (q.mv _ d m t).1 ((q.mv _ d m t).2.2.2 Y) (q.mv _ d m t).2.1 q.ep);have hw:=VL Pg Pz s h f m;rw[<-gT]at hw;clear p q iT fK hl d t hx gM gT;rcases hw with⟨i1,i⟩|⟨i1,⟨i2,i⟩|⟨i2,⟨i6,i⟩|⟨i6,⟨i5,i⟩|⟨i5,⟨gT,i⟩|⟨gT,⟨i7,i⟩|⟨i7,Y,i⟩⟩⟩⟩⟩⟩;all_goals
  dsimp only[ne2]at*;rw[i];clear i;go_enter func65,ntmps65;go_wp2_with (go_at_call 101;refine HR.mono ?_;rintro e w1 ⟨rfl,h1⟩;rw[CJ E.o];have D:=Hd (RpW.of H.o h1 E.o);clear h1)
  obtain⟨W,hW⟩:∃W,w1.alloc (ω #[σ Ξ f.kind,σ υ f.qb,σ υ f.id,σ υ f.n,Γ ld] 133)=W:=⟨_,lc⟩
  rw[hW]at D|-;clear hW;obtain⟨I,J,L,M,O⟩:=D.cells E.o;obtain⟨C,R,S,T,U,P⟩:=D.mv HS.1 HM.o HX.o vT.o;go_quiet (fail);have D1:=Hd (D.drewN nq);generalize W.drewN nq=V1 at D1|-;clear I J L M O C R S T U P;obtain⟨I,J,L,M,O⟩:=D1.cells E.o;obtain⟨C,R,S,T,U,P⟩:=D1.mv HS.1 HM.o HX.o vT.o;go_wp2;go_quiet (fail);have r:=Hd (D1.drewN nq);generalize V1.drewN nq=V2 at r|-;clear I J L M O C R S T U P;obtain⟨I,J,L,M,O⟩:=r.cells E.o;obtain⟨C,R,S,T,U,P⟩:=r.mv HS.1 HM.o HX.o vT.o;go_wp2
 iterate 2
  .go_ret;exact r.idle H.o (But.refl _ _)
 .refine aA 8 (by kernel_rfl) (by kernel_rfl) ?_;change wpStill _ _ V2.drew (λa'=>wpList _ _ _ _ a' V2.drew) _ _;simp only[aB,aO,aC,aP];repeat still_step
  refine aY ?_;go_wp2_with (go_at_call 58;refine(PB.out _ (r.drewN 1).p).mono ?_;rintro e w5 X;have H5:=Hd X;obtain⟨Y,_⟩:=X;subst Y)
  go_ret;exact(r.drewN 1).post H5.o
 all_goals
  go_quiet (fail);have z:=Hd (r.drewN nq);generalize V2.drewN nq=V3 at z|-;clear I J L M O C R S T U P;obtain⟨I,J,L,M,O⟩:=z.cells E.o;obtain⟨C,R,S,T,U,P⟩:=z.mv HS.1 HM.o HX.o vT.o
 iterate 3
  .go_wp2;go_ret;exact z.idle H.o (But.refl _ _)
 go_wp2_with (go_at_call 109;refine(PA.out _ z.p Y).mono ?_;rintro e w5 X;have H5:=Hd X;obtain⟨he5,_⟩:=X;subst he5)
 go_ret;exact z.post H5.o
theorem q7z (p:zx w F A s) (q:F6 s) (h:fo) (u:bn) (i:u.size<=268435456):
  ao prog 65 #[ξ (ζ ⟨A.cl,0,ε⟩),σ υ h,Γ u] w (kD w F A (σ υ (rpE s h)) (rpS s h u.data.toList)):=by
 unfold rpE rpS;by_cases ho:h<0\/s.hosts<=h;{rw[eD ho,eD ho];exact jcj p h u ho}
 .rw[dw ho,dw ho];obtain⟨h,rfl⟩:∃n:gF,h=n:=⟨h.toNat,by omega⟩
  have d:h<s.hosts:=by omega
  rw[aG];cases iT:jY u.data.toList with
  |none=>exact jcm p d u i iT
  |some f=>
   simp only;unfold rpF;by_cases fP:f.qb<4/\f.load=[]
   .rw[eD fP];obtain⟨t,r⟩:=fP;cases hm:s.mv f.qb with
    |none=>exact jck p q d u i iT t r hm
    |some m=>simp only;exact jcl p q d u i iT t r hm
   .rw[dw fP];exact jhf p d u i iT fP
end
end Ph
section
open Go.RowKit Go.Maps
theorem q7j (l:Bs) (bad:iO):(lG l bad).2.1.length<=l.length:=by
 cases bad
 .cases l with
  |nil=>exact jg _
  |cons b l=>exact Nat.le_succ _
 .rw[MQ];exact jg _
theorem I6:∀(k:gF) (first:iO) (a m:gF) (l:Bs) (bad:iO),(iM k first a m l bad).2.1.length<=l.length
 |0,_,_,_,_,_=>jg _
 |k+1,first,a,m,l,bad=>by have d:=q7j l bad;rw[iM];split;{split;{exact d};exact d};exact xlt (I6 k ..) d
theorem q21 (n:gF) (l:Bs) (bad:iO):(takeD n l bad).1.length<=l.length/\(takeD n l bad).2.1.length<=l.length:=by unfold takeD;split;{exact⟨xzl _,jg _⟩};simp only[aW,aI];omega
theorem EC (l:Bs) (bad:iO):(nW l bad).1.length<=l.length/\(nW l bad).2.1.length<=l.length:=by have d:=I6 4 η 0 1 l bad;unfold nW;obtain⟨a,b⟩:=q21 (iM 4 η 0 1 l bad).1 (iM 4 η 0 1 l bad).2.1 (iM 4 η 0 1 l bad).2.2;omega
theorem qtz (n k:gF) (last l:Bs) (out:gJ Chg):
  let c1:=iM 4 η 0 1 l θ
  let c2:=nW c1.2.1 c1.2.2
  let d:=nW c2.2.1 c2.2.2
  let key:=last.take c1.1++c2.1
  (last.length<c1.1->qR n (k+1) last l θ out=ε)/\((lY n key d.1&&bytesBefore last key)=θ->qR n (k+1) last l θ out=ε)/\
   (¬last.length<c1.1->(lY n key d.1&&bytesBefore last key)=η->qR n (k+1) last l θ out=qR n k key d.2.1 d.2.2 (out++[⟨key,d.1,θ⟩])/\0<l.length/\(d.2.2=θ->d.2.1.length<l.length)/\key.length<=8):=by
 simp only[qR,Cm,aS,if_false];cases h1:zw l with
 |none=>obtain⟨D,E⟩:=CP h1;rw[D,E,GJ,GJ];refine⟨λ_=>lc,λ_=>lc,λ_ i=>?_⟩;rw[aM,Mj,bm]at i;cases i
 |some p=>
  have J:p.2.length<l.length:=QM h1;rw[Bt h1];simp only[aw];refine⟨λh=>by rw[eD h];rfl,?_⟩;by_cases eZ:last.length<p.1;{rw[eD eZ];exact⟨λ_=>lc,λh=>(h eZ).elim⟩}
  .rw[dw eZ];cases h2:zu p.2 with
   |none=>obtain⟨H,I⟩:=IY h2;rw[H,I];refine⟨λ_=>lc,λ_ i=>?_⟩;rw[aM,Mj,bm]at i;cases i
   |some t=>
    have z:=(EC p.2 θ).2;rw[Jg h2]at z|-;simp only[aw]at z|-;cases h3:zu t.2 with
    |none=>obtain⟨L,C⟩:=IY h3;have r:=(EC t.2 θ).2;refine⟨λ_=>lc,λ_ h=>⟨by rw[C];simp,by omega,λe=>?_,GA (by simp only[aJ]at h;exact h.1)⟩⟩;rw[C]at e;cases e
    |some v=>have r:=(EC t.2 θ).2;rw[Jg h3]at r|-;simp only[aw]at r|-;refine⟨λh=>by rw[dw (by rw[h];decide)];rfl,λ_ h=>?_⟩;rw[eD h,GI];exact⟨by simp,by omega,λ_=>by omega,GA (by simp only[aJ]at h;exact h.1)⟩
def NH (b:gF) (c:Bs×iO):Bs×Bs×iO:=if b=1 then nW c.1 c.2 else([],c)
theorem quc (n k:gF) (l:Bs) (out:gJ Chg):
  let c1:=lG l θ
  let c2:=nW c1.2.1 c1.2.2
  let d:=NH c1.1 c2.2
  (¬(c1.1=1\/c1.1=2)->pG n (k+1) l θ out=ε)/\(lY n c2.1 d.1=θ->pG n (k+1) l θ out=ε)/\
   ((c1.1=1\/c1.1=2)->lY n c2.1 d.1=η->pG n (k+1) l θ out=pG n k d.2.1 d.2.2 (out++[⟨c2.1,d.1,c1.1==2⟩])/\d.2.1.length<l.length):=by
 simp only[show pG n (k+1) l θ out=(xB n (k+1) l).bind (whole out)from lc];cases l with
 |nil=>exact⟨λ_=>lc,λ_=>lc,λh=>by rcases h with h|h<;>cases h⟩
 |cons b l=>
  simp only[lG,xB];by_cases hb:b.toNat=1\/b.toNat=2
  .rw[dw (by simp;omega)];refine⟨λh=>(h hb).elim,?_⟩;have p:=(EC l θ).2;cases h2:zu l with
   |none=>obtain⟨r,C⟩:=IY h2;rw[r];refine⟨λ_=>lc,λ_ h=>?_⟩;rw[WC]at h;cases h
   |some t=>
    rw[Jg h2]at p|-;simp only[aw,NH]at p|-;by_cases h1:b.toNat=1
    .rw[eD h1,eD (by simpa using h1)];have i:=(EC t.2 θ).2;cases h3:zu t.2 with
     |none=>obtain⟨D,z⟩:=IY h3;refine⟨λ_=>lc,λ_ h=>⟨?_,by simp;omega⟩⟩;unfold pG;rw[z];rfl
     |some v=>rw[Jg h3]at i|-;simp only[aw]at i|-;refine⟨λh=>by rw[dw (by rw[h];decide)];rfl,λ_ h=>?_⟩;rw[eD h,GI];exact⟨lc,by simp;omega⟩
    .rw[dw h1,dw (by simpa using h1)];simp only[aw];refine⟨λh=>by rw[dw (by rw[h];decide)];rfl,λ_ h=>?_⟩;rw[eD h,GI];exact⟨lc,by simp;omega⟩
  .rw[eD (by simp;omega)];exact⟨λ_=>lc,λ_=>lc,λh=>(hb h).elim⟩
end
section
open Go.Conc Go.ConcN Go.RowKit Go.Maps Go.Conc.Lib Go Sim
def Bo (w:ah) (o:jb (gJ Chg)) (e:Ending) (w':ah):Prop:=(match o with
  |some cs=>∃v,e=ψ (ο #[v,χ η])/\nC w' v cs/\∀b,v.ownBlock=ζ b->w.heap.size<=b
  |none=>∃v,e=ψ (ο #[v,χ θ]))/\But (λ_=>gI) w w'
structure UnD (w:ah) (f:Fr) (v:al) (out:gJ Chg) (l:Bs) (bad:iO) (wr:ah):Prop where
 c:mh wr (w.heap.size+1) l bad
 fr:wr.heap[w.heap.size]?=ζ (ω #[σ υ f.kind,σ υ f.qb,σ υ f.id,σ υ f.n,sv f.load] 182 (0,0))
 r:wr.ownsRow (w.heap.size+2) 60 3 v out.length (kg out)
 b:But (λ_=>gI) w wr
structure UxD (w:ah) (f:Fr) (v:al) (out:gJ Chg) (l:Bs) (bad:iO) (x:gF) (k y:bn) (g:iO) (wr:ah):Prop where
 u:UnD w f v out l bad wr
 xb:wr.heap[x]?=ζ (ω #[Γ k,Γ y,χ g] 60 (0,0))
 hx:w.heap.size+2<=x
 hv:v.ownBlock≠ζ x
section
variable {w wr w2:ah} {f:Fr} {v:al} {out:gJ Chg} {l l2:Bs} {bad qU:iO} {x:gF} {k y:bn} {g:iO}
theorem UnD.lt (h:UnD w f v out l bad wr):w.heap.size+1<wr.heap.size:=(j5 h.c).1
theorem UnD.below (h:UnD w f v out l bad wr) (d:Below wr.heap.size wr w2):UnD w f v out l bad w2:=⟨(d.block _ h.lt).trans h.c,(d.block _ (by have:=h.lt;omega)).trans h.fr,qi h.r λg i=>d.block g (h.r.lt g i).2,h.b.trans (il d)⟩
theorem UnD.cur (h:UnD w f v out l bad wr) (p:mh w2 (w.heap.size+1) l2 qU) (d:But (· =w.heap.size+1) wr w2):UnD w f v out l2 qU w2:=⟨p,(d.keep _ (by have:=h.lt;omega) (by omega)).trans h.fr,qi h.r λg i=>d.keep g (h.r.lt g i).2 (by have:=(h.r.lt g i).1;omega),h.b.top d λb e=>.inr (by omega)⟩
theorem UxD.below (h:UxD w f v out l bad x k y g wr) (d:Below wr.heap.size wr w2):UxD w f v out l bad x k y g w2:=⟨h.u.below d,(d.block _ (j5 h.xb).1).trans h.xb,h.hx,h.hv⟩
theorem UxD.cur (h:UxD w f v out l bad x k y g wr) (i:mh w2 (w.heap.size+1) l2 qU) (d:But (· =w.heap.size+1) wr w2):UxD w f v out l2 qU x k y g w2:=⟨h.u.cur i d,(d.keep _ (j5 h.xb).1 (by have:=h.hx;omega)).trans h.xb,h.hx,h.hv⟩
theorem UnD.start (h:UnD w f v out l bad wr):UxD w f v out l bad wr.heap.size ⟨#[]⟩ ⟨#[]⟩ θ (wr.alloc (ω #[Γ ⟨#[]⟩,Γ ⟨#[]⟩,χ θ] 60)):=
 ⟨h.below ((qy _ _).alloc (jg _) _),au _ _,by have:=h.lt;omega,λe=>Nat.lt_irrefl _ (h.r.lt _ e).2⟩
theorem UxD.put (h:UxD w f v out l bad x k y g wr) (d:But (· =x) wr w2) {t z:bn} {i:iO} (D:w2.heap[x]?=ζ (ω #[Γ t,Γ z,χ i] 60 (0,0))):UxD w f v out l bad x t z i w2:=by have E:=h.hx;have C:=h.u.lt;exact⟨⟨(d.keep _ C (by omega)).trans h.u.c,(d.keep _ (by omega) (by omega)).trans h.u.fr,qi h.u.r λb p=>d.keep b (h.u.r.lt b p).2 (λe=>h.hv (e▸p)),h.u.b.top d λb e=>.inr (by omega)⟩,D,h.hx,h.hv⟩
theorem UxD.key (h:UxD w f v out l bad x k y g wr) (d:bn):UxD w f v out l bad x d y g (wr.setCell ⟨x,0,ε⟩ (Γ d)):=h.put (But.setCell (But.refl (λb=>b=x) wr) lc 0 (Γ d)) ((xhs wr x 0 _ _ (Γ d) h.xb).trans lc)
theorem UxD.val (h:UxD w f v out l bad x k y g wr) (d:bn):UxD w f v out l bad x k d g (wr.setCell ⟨x,1,ε⟩ (Γ d)):=h.put (But.setCell (But.refl (λb=>b=x) wr) lc 1 (Γ d)) ((xhs wr x 1 _ _ (Γ d) h.xb).trans lc)
theorem UxD.gone (h:UxD w f v out l bad x k y g wr) (d:iO):UxD w f v out l bad x k y d (wr.setCell ⟨x,2,ε⟩ (χ d)):=h.put (But.setCell (But.refl (λb=>b=x) wr) lc 2 (χ d)) ((xhs wr x 2 _ _ (χ d) h.xb).trans lc)
theorem UxD.cells (h:UxD w f v out l bad x k y g wr):(wr.cell? ⟨x,0,ε⟩=ζ (Γ k)/\wr.cell? ⟨x,1,ε⟩=ζ (Γ y)/\wr.cell? ⟨x,2,ε⟩=ζ (χ g)/\∀j,wr.frozen? ⟨x,j,ε⟩=θ)/\wr.cell? ⟨w.heap.size,0,ε⟩=ζ (σ υ f.kind)/\wr.cell? ⟨w.heap.size,1,ε⟩=ζ (σ υ f.qb):=
 ⟨⟨by simp[aa,h.xb],by simp[aa,h.xb],by simp[aa,h.xb],λj=>by simp[aQ,h.xb]⟩,by simp[aa,h.u.fr],by simp[aa,h.u.fr]⟩
theorem UxD.app {v':al} {o:Obj} (h:UxD w f v out l bad x k y g wr) (i:w1=wr.alloc o) (d:w1.grownBy w2 v.ownBlock) (z:w2.ownsRow (w.heap.size+2) 60 3 v' (out.length+1) (kg out++[Γ k,Γ y,χ g])):UnD w f v' (out++[⟨k.data.toList,y.data.toList,g⟩]) l bad w2:=by
 subst i;have C:=h.u.lt;have p:∀b,b<w.heap.size+2->w2.heap[b]?=wr.heap[b]?:=λb t=>(d.block b (by simp;omega) λe=>by have:=(h.u.r.lt _ e.symm).1;omega).trans (aE wr o (by omega));refine⟨(p _ (by omega)).trans h.u.c,(p _ (by omega)).trans h.u.fr,?_,?_⟩
 .rw[az];have e:kg (out++[⟨k.data.toList,y.data.toList,g⟩])=kg out++[Γ k,Γ y,χ g]:=by simp[kg,tX]
  rw[e];exact z
 .refine⟨?_,λb t _=>?_,?_,?_⟩;{have i:=d.size;have D:=h.u.b.size;simp at i;omega};{exact(p b (by omega)).trans (h.u.b.keep b t id)};{rw[d.os];exact h.u.b.os};rw[d.output];exact h.u.b.output
theorem UnD.fin (h:UnD w f v out l bad wr):Bo w (if bad then ε else whole out ([],l)) (ψ (ο #[v,χ (!bad&&l.isEmpty&&ν (0<out.length))])) wr:=by
 unfold Bo whole;refine⟨?_,h.b⟩;cases bad
 .rw[dw (by decide)];cases hl:l.isEmpty;{simp only[hl];exact⟨v,lc⟩}
  .cases ho:out with
   |nil=>exact⟨v,lc⟩
   |cons c o=>simp only[hl,aM,List.isEmpty_cons,Bool.not_false,Bool.and_self,if_true];refine⟨v,by simp,?_,λb i=>by have:=(h.r.lt b i).1;omega⟩;rw[<-ho];exact⟨h.r.1,h.r.2.imp id λ⟨g,d,cur,e,_,r⟩=>⟨g,d,cur,e,xzl _,r⟩⟩
 .exact⟨v,lc⟩
theorem Bo.no (d:But (λ_=>gI) w wr):Bo w ε (ψ (ο #[v,χ θ])) wr:=⟨⟨v,lc⟩,d⟩
theorem MP:∃i,prog.info? 60=ζ i/\i.zero=ζ (Θ #[Γ ⟨#[]⟩,Γ ⟨#[]⟩,χ θ])/\i.size=3/\i.bytes=40:=by
 have h:(prog.info? 60).map (λi=>(i.zero,i.size,i.bytes))=ζ (ζ (Θ #[Γ ⟨#[]⟩,Γ ⟨#[]⟩,χ θ]),3,40):=by kernel_rfl
 obtain⟨i,r,d⟩:=Option.map_eq_some_iff.1 h;injection d with d p;injection p with p t;exact⟨i,r,d,p,t⟩
structure UnDR (w:ah) (f:Fr) (c j:gF) (last l:Bs) (bad:iO) (v:al) (out:gJ Chg) (wr:ah):Prop where
 u:UnD w f v out l bad wr
 e:unblock f.qb f.load=qR f.qb (c-j) last l bad out
 z:bad=θ->out.length+l.length<=f.load.length
 z2:out.length<=f.load.length
 y:last.length<=8
theorem q25 (n:gF) (l:Bs):unblock n l=qR n ((iM 4 η 0 1 l θ).1-0) [] (iM 4 η 0 1 l θ).2.1 (iM 4 η 0 1 l θ).2.2 []:=by
 unfold unblock qR;cases h1:zw l with
 |none=>rw[(CP h1).2];rfl
 |some p=>rw[Bt h1];rfl
def ofI (k:Bs):fo:=if jN k then(q9 k:fo)else -1
theorem ZP (k:bn) (w:ah):ao prog 50 #[Γ k] w (IW (ofI k.data.toList) w):=by unfold ofI;cases h:jN k.data.toList;{exact Pn k h};exact Mc k h
theorem P6 (n:gF) (k v:bn):lY n k.data.toList v.data.toList=(ofI k.data.toList==(n:fo)&&ν (v.size<=12)):=by
 unfold lY ofI;have d:v.data.toList.length=v.size:=by simp
 rw[d];cases jN k.data.toList;{simp}
 .have e:((q9 k.data.toList:fo)==(n:fo))=(q9 k.data.toList==n):=by rw[Bool.eq_iff_iff];simp;omega
  simp[e]
theorem q73 (f:Fr) (hk:f.kind=2) (ld:bn) (fK:ld.data.toList=f.load) (hs:ld.size<=268435456):
  ao prog 108 #[Θ #[σ υ f.kind,σ υ f.qb,σ υ f.id,σ υ f.n,Γ ld]] w (Bo w (unblock f.qb f.load)):=by
 have HU:Hid (UnD w f (Δ ε 0 0) [] f.load θ ((w.alloc (ω #[σ υ f.kind,σ υ f.qb,σ υ f.id,σ υ f.n,Γ ld] 182)).alloc (ω #[Γ ld,χ θ] 218))):=Hd ⟨by unfold mh;rw[qx fK];exact heap_alloc_new' _ _ (by simp),by rw[aE _ _ (by simp),au,qx fK],aj _ _ _ _,il (((qy _ _).alloc (jg _) _).alloc (by simp) _)⟩;obtain⟨c0,e0⟩:∃c,iM 4 η 0 1 f.load θ=c:=⟨_,lc⟩
 have E0:=Hd e0;have H0:Hid (unblock f.qb f.load=qR f.qb (c0.1-0) [] c0.2.1 c0.2.2 []):=Hd (by rw[<-e0];exact q25 _ _);have HZ:Hid (c0.2.1.length<=f.load.length):=Hd (by rw[<-e0];exact I6 4 η 0 1 f.load θ);have HC0:c0.1<=268435456:=by
  rw[<-e0];cases d:zw f.load with
  |none=>rw[(CP d).1];omega
  |some p=>have i:=I7 4 η 0 1 f.load θ;rw[Gw d]at i;rw[Bt d];simp only at i|-;omega
 have OT:Hid (f.load.length<=268435456):=Hd (by rw[<-fK];simpa using hs);obtain⟨ci,l1,l2,l3,l4⟩:=MP;have HI:=Hd (ac l1 (ac l2 (ac l3 l4)));have i0:((f.kind:fo)==2)=η:=by simp[hk]
 clear e0 l1 l2 l3 l4 hs hk;go_enter func108,ntmps108;go_wp2_with (go_at_call 133;refine(A8 HU.c).mono ?_;rw[E0.o];rintro e w2 ⟨rfl,d,i⟩;have K0:=Hd (HU.cur d i);clear d i)
 go_loopw [5,6,8] (λo la k wr=>∃(out:gJ Chg) (sa:jb Addr) (cp:gF) (t:bn) (j:gF) (l:Bs) (bad:iO),o=.slice sa out.length cp/\la=Γ t/\k=σ υ j/\j<=c0.1/\Hid (UnDR w f c0.1 j t.data.toList l bad (.slice sa out.length cp) out wr)) (λ_ _ k _=>c0.1-(intOf k).toNat);case atStart=>exact⟨[],ε,0,⟨#[]⟩,0,c0.2.1,c0.2.2,lc,lc,lc,xzl _,Hd ⟨K0.o,H0.o,λ_=>by have:=HZ.o;simpa using this,xzl _,xzl _⟩⟩
 case round=>
  obtain⟨out,sa,cp,t,j,l,bad,rfl,rfl,rfl,Ot,D⟩:=hrel;obtain⟨sr,nH⟩:=qc l;obtain⟨Kz,fw,_⟩:=D.u.c.cells nH;have gX:=gU List.isEmpty nH;rw[<-ae]at gX;by_cases hx:j=c0.1\/bad=η
  .have HF:Hid (Bo w (unblock f.qb f.load) (ψ (ο #[.slice sa out.length cp,χ (!bad&&l.isEmpty&&ν (0<out.length))])) wr):=Hd (by
    have:=D.u.fin;rw[D.e];unfold qR;cases bad;{rcases hx with rfl|h;{rw[Nat.sub_self];exact this};cases h}
    .exact this)
   clear nH;cases bad
   .obtain rfl:j=c0.1:=hx.elim id λh=>by cases h
    cases hl:l.isEmpty;all_goals
     rw[hl]at gX HF;go_wp2;go_ret2;simpa using HF.o
   .by_cases hj:j=c0.1;{subst hj;go_wp2;go_ret2;simpa using HF.o}
    .have Fg:((j:fo)<c0.1):=by omega
     have Ou:j<c0.1:=by omega
     go_wp2;go_ret2;simpa using HF.o
  .obtain⟨q,hq⟩:∃q,c0.1-j=q+1:=⟨c0.1-j-1,by omega⟩
   have yK:c0.1-(j+1)=q:=by omega
   obtain rfl:bad=θ:=by cases bad;rfl;exact gY (.inr lc) hx
   have Ou:j<c0.1:=by omega
   have Fg:((j:fo)<c0.1):=by omega
   have O:=qtz f.qb q t.data.toList l out;rw[<-hq]at O;obtain⟨c1,e1⟩:∃c,iM 4 η 0 1 l θ=c:=⟨_,lc⟩
   rw[e1]at O;obtain⟨c2,R⟩:∃c,nW c1.2.1 c1.2.2=c:=⟨_,lc⟩
   simp only[R]at O;obtain⟨c3,e3⟩:∃c,nW c2.2.1 c2.2.2=c:=⟨_,lc⟩
   simp only[e3]at O;have Dj:=I6 4 η 0 1 l θ;have nR:=EC c1.2.1 c1.2.2;rw[e1]at Dj;rw[R]at nR;obtain⟨tb,ht⟩:=qc c2.1;obtain⟨C,hv⟩:=qc c3.1;have uw:t.data.toList.length=t.size:=by simp
   have iF:=VW (b:=t) (p:=c1.1) ht;rw[<-iF,<-hv,P6]at O;have htz:tb.size<=268435456:=by rw[jl ht];have:=D.z lc;have:=OT.o;have:=nR.1;omega
   have Uw:t.size<=8:=by have:=D.y;omega
   have E1:=Hd e1;have E2:=Hd R;have E3:=Hd e3;have HT:=Hd (ac ht hv);have S:=Hd O;have HX:=Hd D.u.start;have OO:=Hd yK;obtain⟨⟨x0,x1,x2,xf⟩,f0,f1⟩:=HX.cells;clear e1 R e3 Dj nR ht hv iF O nH gX hq yK hx;by_cases hp:t.size<c1.1
   .have Di:ν (t.size<c1.1)=η:=xdt hp;have EY:ν ((t.size:fo)<c1.1)=η:=xdt (by omega);have HP:=Hd hp;clear hp;go_wp2_with (go_at_call 133;refine(A8 HX.u.c).mono ?_;rw[E1.o];rintro e w3 ⟨rfl,d,i⟩;have K1:=Hd (HX.cur d i);clear d i)
    go_ret2;rw[D.e,S.1 (by rw[uw];exact HP.o)];exact .no K1.u.b
   .have Di:ν (t.size<c1.1)=θ:=xdf hp;have EY:((c1.1:fo)<=t.size):=by omega
    have hp4:c1.1<=t.size:=by omega
    have hxz:(t.extract 0 c1.1).size=c1.1:=by simp;omega
    have TN:Hid (¬t.data.toList.length<c1.1):=Hd (by rw[uw];exact hp);clear uw;go_wp2_with (go_at_call 133;refine(A8 HX.u.c).mono ?_;rw[E1.o];rintro e w3 ⟨rfl,d,i⟩;have K1:=Hd (HX.cur d i);clear d i)
    go_region_with (go_at_call 134;refine(wG (K1.below (w2:=_) (by first|exact qy _ _|exact(qy _ _).drew)).u.c).mono ?_;rw[E2.o,qx HT.1];rintro e w4 ⟨rfl,d,i⟩;have K2:=Hd ((K1.below (by first|exact qy _ _|exact(qy _ _).drew)).cur d i);obtain⟨⟨x0,x1,x2,xf⟩,f0,f1⟩:=K2.cells;clear d i)
    obtain⟨J,iF⟩:∃J,t.extract 0 c1.1++tb=J:=⟨_,lc⟩
    rw[iF]at S|-;have E:=Hd (K2.key J);obtain⟨⟨y0,y1,y2,yf⟩,g0,g1⟩:=E.cells;obtain⟨w5,Sm⟩:∃w5,w4.setCell ⟨wr.heap.size,0,ε⟩ (Γ J)=w5:=⟨_,lc⟩
    rw[Sm]at E y0 y1 y2 g0 g1|-;have Vh:∀j,w5.frozen? ⟨wr.heap.size,j,ε⟩=θ:=by rw[<-Sm];exact yf
    clear Sm yf x0 x1 x2 xf f0 f1 iF;have yf:=Vh;clear Vh;have hle:=WK J t;have BS:=Hd (λw=>ZP J w);obtain⟨I,Hq⟩:∃I,ofI J.data.toList=I:=⟨_,lc⟩
    rw[Hq]at S BS;clear Hq;have SF:out.length<=268435456:=by have:=D.z2;have:=OT.o;omega
    rcases hle with⟨L,b1,b2⟩|⟨L,b1⟩|⟨L,b1,b2⟩;rotate_left
    .have pq:Hid (unblock f.qb f.load=ε):=Hd (by rw[D.e];exact S.2.1 (by rw[L];simp));clear L;go_wp2_with (go_at_call 134;refine(wG E.u.c).mono ?_;rw[E3.o,qx HT.2];rintro e w6 ⟨rfl,d,i⟩;have H:=Hd ((E.cur d i).val C);obtain⟨⟨z0,z1,z2,zf⟩,t0,t1⟩:=(E.cur d i).cells;obtain⟨⟨V,X,M,Y⟩,T,U⟩:=H.cells;clear d i y0 y1 y2 yf g0 g1)
     go_ret2;rw[pq.o];exact .no H.u.b
    .have pq:Hid (unblock f.qb f.load=ε):=Hd (by rw[D.e];exact S.2.1 (by rw[L];simp));clear L;go_wp2_with (go_at_call 134;refine(wG E.u.c).mono ?_;rw[E3.o,qx HT.2];rintro e w6 ⟨rfl,d,i⟩;have H:=Hd ((E.cur d i).val C);obtain⟨⟨z0,z1,z2,zf⟩,t0,t1⟩:=(E.cur d i).cells;obtain⟨⟨V,X,M,Y⟩,T,U⟩:=H.cells;clear d i y0 y1 y2 yf g0 g1)
     go_ret2;rw[pq.o];exact .no H.u.b
    have B0:=Hd L;clear L;have kS:((I !=(f.qb:fo))=η/\(I==(f.qb:fo))=θ/\ν (I=(f.qb:fo))=θ)/\Hid ((I==(f.qb:fo)&&ν (C.size<=12))=θ)\/(I !=(f.qb:fo))=θ/\(ν (12<C.size)=η/\ν ((12:fo)<C.size)=η)/\Hid ((I==(f.qb:fo)&&ν (C.size<=12))=θ)\/(I !=(f.qb:fo))=θ/\(ν (12<C.size)=θ/\ν ((12:fo)<C.size)=θ)/\Hid ((I==(f.qb:fo)&&ν (C.size<=12))=η):=by by_cases e:I=(f.qb:fo);{by_cases R:12<C.size;{exact .inr (.inl ⟨by simp[e],⟨xdt R,xdt (by omega)⟩,Hd (by simp;omega)⟩)};exact .inr (.inr ⟨by simp[e],⟨xdf R,xdf (by omega)⟩,Hd (by simp[e];omega)⟩)};exact .inl ⟨by simp[e],Hd (by simp[e])⟩
    rcases kS with⟨n1,vU⟩|⟨n1,n2,vU⟩|⟨n1,n2,vU⟩
    rotate_right
    .have ng:=Hd (S.2.2 TN.o (by rw[vU.o,B0.o];rfl));go_wp2_with (go_at_call 134;refine(wG E.u.c).mono ?_;rw[E3.o,qx HT.2];rintro e w6 ⟨rfl,d,i⟩;have H:=Hd ((E.cur d i).val C);obtain⟨⟨z0,z1,z2,zf⟩,t0,t1⟩:=(E.cur d i).cells;obtain⟨⟨V,X,M,Y⟩,T,U⟩:=H.cells;clear d i y0 y1 y2 yf g0 g1)
     obtain⟨w7,sD⟩:∃w7,w6.setCell ⟨wr.heap.size,1,ε⟩ (Γ C)=w7:=⟨_,lc⟩
     rw[sD]at H V X M T U|-;clear sD z0 z1 z2 zf t0 t1 Y;first|go_region_with (go_at_call 50;refine(BS.o _).mono ?_;rintro e w8 ⟨rfl,d⟩;have P:=Hd (H.below (w2:=w8) (by first|exact d|exact((qy _ _).drew).trans d));obtain⟨⟨V,X,M,Y⟩,T,U⟩:=P.cells;clear d)|fail
     all_goals
      go_wp2_with (at_builtin;(refine aH _ lc (.tmp 87) (.tmp 89) 108 lc (w.heap.size+2) 60 ci _ 3 40 underlying108 HI.1 HI.2.1 HI.2.2.1 HI.2.2.2 lc (by decide) (.slice sa out.length cp) out.length (kg out) lc (P.u.r.alloc _) ⟨w8.heap.size,0,ε⟩ 1 1 [Γ J,Γ C,χ θ] lc lc (F3 w8 _ _ _ _) (by intro u hu;simp at hu;rcases hu with rfl|rfl|rfl<;>rfl) (by unfold bj;omega) (by omega) (by have:=P.u.lt;simp;omega) ?_;intro M w9 fu gV _;obtain⟨jF,jI,iQ⟩:=jq fu;rw[iQ]at fu;have K6:=Hd (P.app lc gV fu);rw[iQ];clear fu gV iQ))
      go_roundw;case rel=>exact⟨out++[⟨J.data.toList,C.data.toList,θ⟩],jF,jI,J,j+1,c3.2.1,c3.2.2,by simp,lc,by go_num,by omega,Hd ⟨by simpa using K6.o,by rw[OO.o,D.e];exact ng.1,λe=>by have:=ng.2.2.1 e;have:=D.z lc;simp;omega,by have d:=ng.2.1;have i:=D.z lc;simp;omega,ng.2.2.2⟩⟩
      case measure=>simp[intOf]<;>omega
    all_goals
     have pq:Hid (unblock f.qb f.load=ε):=Hd (by rw[D.e];exact S.2.1 (by rw[vU.o];rfl));go_wp2_with (go_at_call 134;refine(wG E.u.c).mono ?_;rw[E3.o,qx HT.2];rintro e w6 ⟨rfl,d,i⟩;have H:=Hd ((E.cur d i).val C);obtain⟨⟨z0,z1,z2,zf⟩,t0,t1⟩:=(E.cur d i).cells;obtain⟨⟨V,X,M,Y⟩,T,U⟩:=H.cells;clear d i y0 y1 y2 yf g0 g1)
     obtain⟨w7,sD⟩:∃w7,w6.setCell ⟨wr.heap.size,1,ε⟩ (Γ C)=w7:=⟨_,lc⟩
     rw[sD]at H V X M T U|-;clear sD z0 z1 z2 zf t0 t1 Y;first|go_region_with (go_at_call 50;refine(BS.o _).mono ?_;rintro e w8 ⟨rfl,d⟩;have P:=Hd (H.below (w2:=w8) (by first|exact d|exact((qy _ _).drew).trans d));obtain⟨⟨V,X,M,Y⟩,T,U⟩:=P.cells;clear d)|fail
     all_goals
      go_wp2;go_ret2;rw[pq.o];exact .no P.u.b
end
section
variable {w:ah}
structure UnDE (w:ah) (f:Fr) (c j:gF) (l:Bs) (bad:iO) (v:al) (out:gJ Chg) (wr:ah):Prop where
 u:UnD w f v out l bad wr
 e:qD f.qb f.load=pG f.qb (c-j) l bad out
 z:bad=θ->out.length+l.length<=f.load.length
 z2:out.length<=f.load.length
theorem q26 (n:gF) (l:Bs):qD n l=pG n ((iM 4 η 0 1 l θ).1-0) (iM 4 η 0 1 l θ).2.1 (iM 4 η 0 1 l θ).2.2 []:=by
 unfold qD pG;cases h1:zw l with
 |none=>rw[(CP h1).2];rfl
 |some p=>rw[Bt h1];rfl
theorem q76 (f:Fr) (hk:f.kind≠2) (ld:bn) (fK:ld.data.toList=f.load) (hs:ld.size<=268435456):
  ao prog 108 #[Θ #[σ υ f.kind,σ υ f.qb,σ υ f.id,σ υ f.n,Γ ld]] w (Bo w (qD f.qb f.load)):=by
 have HU:Hid (UnD w f (Δ ε 0 0) [] f.load θ ((w.alloc (ω #[σ υ f.kind,σ υ f.qb,σ υ f.id,σ υ f.n,Γ ld] 182)).alloc (ω #[Γ ld,χ θ] 218))):=Hd ⟨by unfold mh;rw[qx fK];exact heap_alloc_new' _ _ (by simp),by rw[aE _ _ (by simp),au,qx fK],aj _ _ _ _,il (((qy _ _).alloc (jg _) _).alloc (by simp) _)⟩;obtain⟨c0,e0⟩:∃c,iM 4 η 0 1 f.load θ=c:=⟨_,lc⟩
 have E0:=Hd e0;have H0:Hid (qD f.qb f.load=pG f.qb (c0.1-0) c0.2.1 c0.2.2 []):=Hd (by rw[<-e0];exact q26 _ _);have HZ:Hid (c0.2.1.length<=f.load.length):=Hd (by rw[<-e0];exact I6 4 η 0 1 f.load θ);have HC0:c0.1<=268435456:=by
  rw[<-e0];cases d:zw f.load with
  |none=>rw[(CP d).1];omega
  |some p=>have i:=I7 4 η 0 1 f.load θ;rw[Gw d]at i;rw[Bt d];simp only at i|-;omega
 have OT:Hid (f.load.length<=268435456):=Hd (by rw[<-fK];simpa using hs);obtain⟨ci,l1,l2,l3,l4⟩:=MP;have HI:=Hd (ac l1 (ac l2 (ac l3 l4)));have i0:((f.kind:fo)==2)=θ:=by simp;omega
 clear e0 l1 l2 l3 l4 hs hk;go_enter func108,ntmps108;go_wp2_with (go_at_call 133;refine(A8 HU.c).mono ?_;rw[E0.o];rintro e w2 ⟨rfl,d,i⟩;have K0:=Hd (HU.cur d i);clear d i)
 go_loopw [5,8] (λo k wr=>∃(out:gJ Chg) (sa:jb Addr) (cp:gF) (j:gF) (l:Bs) (bad:iO),o=.slice sa out.length cp/\k=σ υ j/\j<=c0.1/\Hid (UnDE w f c0.1 j l bad (.slice sa out.length cp) out wr)) (λ_ k _=>c0.1-(intOf k).toNat);case atStart=>exact⟨[],ε,0,0,c0.2.1,c0.2.2,lc,lc,xzl _,Hd ⟨K0.o,H0.o,λ_=>by have:=HZ.o;simpa using this,xzl _⟩⟩
 case round=>
  obtain⟨out,sa,cp,j,l,bad,rfl,rfl,Ot,J⟩:=hrel;obtain⟨sr,nH⟩:=qc l;obtain⟨Kz,fw,_⟩:=J.u.c.cells nH;have gX:=gU List.isEmpty nH;rw[<-ae]at gX;by_cases hx:j=c0.1\/bad=η
  .have HF:Hid (Bo w (qD f.qb f.load) (ψ (ο #[.slice sa out.length cp,χ (!bad&&l.isEmpty&&ν (0<out.length))])) wr):=Hd (by
    have:=J.u.fin;rw[J.e];unfold pG;cases bad;{rcases hx with rfl|h;{rw[Nat.sub_self];exact this};cases h}
    .exact this)
   clear nH;cases bad
   .obtain rfl:j=c0.1:=hx.elim id λh=>by cases h
    cases hl:l.isEmpty;all_goals
     rw[hl]at gX HF;go_wp2;go_ret2;simpa using HF.o
   .by_cases hj:j=c0.1;{subst hj;go_wp2;go_ret2;simpa using HF.o}
    .have Fg:((j:fo)<c0.1):=by omega
     have Ou:j<c0.1:=by omega
     go_wp2;go_ret2;simpa using HF.o
  .obtain⟨q,hq⟩:∃q,c0.1-j=q+1:=⟨c0.1-j-1,by omega⟩
   have yK:c0.1-(j+1)=q:=by omega
   obtain rfl:bad=θ:=by cases bad;rfl;exact gY (.inr lc) hx
   have Ou:j<c0.1:=by omega
   have Fg:((j:fo)<c0.1):=by omega
   have I:=quc f.qb q l out;rw[<-hq]at I;obtain⟨⟨op,lo,bo⟩,e1⟩:∃c,lG l θ=c:=⟨_,lc⟩
   rw[e1]at I;simp only at I;obtain⟨c2,e2⟩:∃c,nW lo bo=c:=⟨_,lc⟩
   simp only[e2]at I;have nR:=EC lo bo;rw[e2]at nR;obtain⟨X,ht⟩:=qc c2.1;have E1:=Hd e1;have E2:=Hd e2;have Y:=Hd J.u.start;have OO:=Hd yK;obtain⟨⟨x0,x1,x2,O⟩,L,M⟩:=Y.cells;have SF:out.length<=268435456:=by have:=J.z2;have:=OT.o;omega
   have BS:=Hd (λw=>ZP X w);obtain⟨t,Hq⟩:∃t,ofI X.data.toList=t:=⟨_,lc⟩
   rw[Hq]at BS;have HFE:=Hd Hq;clear e1 e2 nR nH gX hq yK hx Hq;by_cases o1:op=1
   .subst o1;obtain⟨c3,e3⟩:∃c,NH 1 c2.2=c:=⟨_,lc⟩
    simp only[e3]at I;obtain⟨C,hv⟩:=qc c3.1;rw[<-ht,<-hv,P6,HFE.o]at I;have E3:Hid (nW c2.2.1 c2.2.2=c3):=Hd e3;have HT:=Hd (ac ht hv);have lF:=Hd I;have OP:Hid ((1:gF)=1\/(1:gF)=2):=Hd (.inl lc);clear e3 ht hv I;have kS:((t !=(f.qb:fo))=η/\(t==(f.qb:fo))=θ/\ν (t=(f.qb:fo))=θ)/\Hid ((t==(f.qb:fo)&&ν (C.size<=12))=θ)\/(t !=(f.qb:fo))=θ/\(ν (12<C.size)=η/\ν ((12:fo)<C.size)=η)/\Hid ((t==(f.qb:fo)&&ν (C.size<=12))=θ)\/(t !=(f.qb:fo))=θ/\(ν (12<C.size)=θ/\ν ((12:fo)<C.size)=θ)/\Hid ((t==(f.qb:fo)&&ν (C.size<=12))=η):=by by_cases e:t=(f.qb:fo);{by_cases e2:12<C.size;{exact .inr (.inl ⟨by simp[e],⟨xdt e2,xdt (by omega)⟩,Hd (by simp;omega)⟩)};exact .inr (.inr ⟨by simp[e],⟨xdf e2,xdf (by omega)⟩,Hd (by simp[e];omega)⟩)};exact .inl ⟨by simp[e],Hd (by simp[e])⟩
    rcases kS with⟨n1,vU⟩|⟨n1,n2,vU⟩|⟨n1,n2,vU⟩
    rotate_right
    .have ng:=Hd (lF.2.2 (by first|exact OP.o|exact .inl trivial|exact .inr trivial) vU.o);go_wp2_with (first|(go_at_call 134;refine(wG D.u.c).mono ?_;rw[E3.o,qx HT.2];rintro e w6 ⟨rfl,d,i⟩;have K5:=Hd (D.cur d i);have K6:=Hd (K5.val C);obtain⟨⟨x0,x1,_,O⟩,L,M⟩:=K5.cells;obtain⟨⟨T,U,H,V⟩,R,S⟩:=K6.cells;clear d i)|(go_at_call 134;refine(wG K2.u.c).mono ?_;rw[E2.o,qx HT.1];rintro e w4 ⟨rfl,d,i⟩;have K3:=Hd (K2.cur d i);have D:=Hd (K3.key X);obtain⟨⟨x0,x1,_,O⟩,L,M⟩:=K3.cells;obtain⟨⟨T,U,H,V⟩,R,S⟩:=D.cells;clear d i)|(go_at_call 132;refine(zW Y.u.c).mono ?_;rw[E1.o];rintro e w3 ⟨rfl,d,i⟩;have P:=Hd (Y.cur d i);have K2:=Hd (P.gone θ);obtain⟨⟨_,_,x2,O⟩,L,M⟩:=P.cells;clear d i))
     obtain⟨w7,sD⟩:∃w7,w6.setCell ⟨wr.heap.size,1,ε⟩ (Γ C)=w7:=⟨_,lc⟩
     rw[sD]at K6 T U H R S|-;clear sD x0 x1 x2 O L M V;first|go_region_with (go_at_call 50;refine(BS.o _).mono ?_;rintro e w8 ⟨rfl,d⟩;have E:=Hd (K6.below (w2:=w8) (by first|exact d|exact((qy _ _).drew).trans d));obtain⟨⟨T,U,H,V⟩,R,S⟩:=E.cells;clear d)|fail
     all_goals
      go_wp2_with (at_builtin;(refine aH _ lc (.tmp 87) (.tmp 89) 108 lc (w.heap.size+2) 60 ci _ 3 40 underlying108 HI.1 HI.2.1 HI.2.2.1 HI.2.2.2 lc (by decide) (.slice sa out.length cp) out.length (kg out) lc (E.u.r.alloc _) ⟨w8.heap.size,0,ε⟩ 1 1 [Γ X,Γ C,χ θ] lc lc (F3 w8 _ _ _ _) (by intro u hu;simp at hu;rcases hu with rfl|rfl|rfl<;>rfl) (by unfold bj;omega) (by omega) (by have:=E.u.lt;simp;omega) ?_;intro H w9 fu gV _;obtain⟨jF,jI,iQ⟩:=jq fu;rw[iQ]at fu;have K9:=Hd (E.app lc gV fu);rw[iQ];clear fu gV iQ))
      go_roundw;case rel=>exact⟨out++[⟨X.data.toList,C.data.toList,θ⟩],jF,jI,j+1,c3.2.1,c3.2.2,by simp,by go_num,by omega,Hd ⟨by simpa using K9.o,by rw[OO.o,J.e];exact ng.1,λe=>by have:=ng.2;have:=J.z lc;simp;omega,by have d:=ng.2;have i:=J.z lc;simp;omega⟩⟩
      case measure=>simp[intOf]<;>omega
    all_goals
     have pq:Hid (qD f.qb f.load=ε):=Hd (by rw[J.e];exact lF.2.1 vU.o);go_wp2_with (first|(go_at_call 134;refine(wG D.u.c).mono ?_;rw[E3.o,qx HT.2];rintro e w6 ⟨rfl,d,i⟩;have K5:=Hd (D.cur d i);have K6:=Hd (K5.val C);obtain⟨⟨x0,x1,_,O⟩,L,M⟩:=K5.cells;obtain⟨⟨T,U,H,V⟩,R,S⟩:=K6.cells;clear d i)|(go_at_call 134;refine(wG K2.u.c).mono ?_;rw[E2.o,qx HT.1];rintro e w4 ⟨rfl,d,i⟩;have K3:=Hd (K2.cur d i);have D:=Hd (K3.key X);obtain⟨⟨x0,x1,_,O⟩,L,M⟩:=K3.cells;obtain⟨⟨T,U,H,V⟩,R,S⟩:=D.cells;clear d i)|(go_at_call 132;refine(zW Y.u.c).mono ?_;rw[E1.o];rintro e w3 ⟨rfl,d,i⟩;have P:=Hd (Y.cur d i);have K2:=Hd (P.gone θ);obtain⟨⟨_,_,x2,O⟩,L,M⟩:=P.cells;clear d i))
     obtain⟨w7,sD⟩:∃w7,w6.setCell ⟨wr.heap.size,1,ε⟩ (Γ C)=w7:=⟨_,lc⟩
     rw[sD]at K6 T U H R S|-;clear sD x0 x1 x2 O L M V;first|go_region_with (go_at_call 50;refine(BS.o _).mono ?_;rintro e w8 ⟨rfl,d⟩;have E:=Hd (K6.below (w2:=w8) (by first|exact d|exact((qy _ _).drew).trans d));obtain⟨⟨T,U,H,V⟩,R,S⟩:=E.cells;clear d)|fail
     all_goals
      go_wp2;go_ret2;rw[pq.o];exact .no E.u.b
   by_cases o2:op=2
   .subst o2;obtain⟨C,hv⟩:∃C:bn,C=⟨#[]⟩:=⟨_,lc⟩
    obtain⟨c3,e3⟩:∃c,NH 2 c2.2=c:=⟨_,lc⟩
    simp only[e3]at I;have Sq:C.data.toList=c3.1:=by rw[hv,<-e3];rfl
    rw[<-ht,<-Sq,P6,HFE.o]at I;have HT:=Hd (ac ht Sq);have lF:=Hd I;have OP:Hid ((2:gF)=1\/(2:gF)=2):=Hd (.inr lc);have mH:Hid (c3.2=c2.2):=Hd (by rw[<-e3];rfl);clear e3 ht Sq I;subst hv;have jq2:=OP;have kS:((t !=(f.qb:fo))=η/\(t==(f.qb:fo))=θ/\ν (t=(f.qb:fo))=θ)/\Hid ((t==(f.qb:fo)&&ν ((⟨#[]⟩:bn).size<=12))=θ)\/(t !=(f.qb:fo))=θ/\(ν (12<(⟨#[]⟩:bn).size)=η/\ν ((12:fo)<(⟨#[]⟩:bn).size)=η)/\Hid ((t==(f.qb:fo)&&ν ((⟨#[]⟩:bn).size<=12))=θ)\/(t !=(f.qb:fo))=θ/\(ν (12<(⟨#[]⟩:bn).size)=θ/\ν ((12:fo)<(⟨#[]⟩:bn).size)=θ)/\Hid ((t==(f.qb:fo)&&ν ((⟨#[]⟩:bn).size<=12))=η):=by by_cases e:t=(f.qb:fo);{by_cases e2:12<(⟨#[]⟩:bn).size;{exact .inr (.inl ⟨by simp[e],⟨xdt e2,xdt (by omega)⟩,Hd (by simp;omega)⟩)};exact .inr (.inr ⟨by simp[e],⟨xdf e2,xdf (by omega)⟩,Hd (by simp[e];omega)⟩)};exact .inl ⟨by simp[e],Hd (by simp[e])⟩
    rcases kS with⟨n1,vU⟩|⟨n1,n2,vU⟩|⟨n1,n2,vU⟩
    rotate_right
    .have ng:=Hd (lF.2.2 (by first|exact OP.o|exact .inl trivial|exact .inr trivial) vU.o);go_wp2_with (first|(go_at_call 134;refine(wG K2.u.c).mono ?_;rw[E2.o,qx HT.1];rintro e w4 ⟨rfl,d,i⟩;have K3:=Hd (K2.cur d i);have D:=Hd (K3.key X);obtain⟨⟨x0,x1,_,O⟩,L,M⟩:=K3.cells;obtain⟨⟨T,U,H,V⟩,R,S⟩:=D.cells;clear d i)|(go_at_call 132;refine(zW Y.u.c).mono ?_;rw[E1.o];rintro e w3 ⟨rfl,d,i⟩;have P:=Hd (Y.cur d i);have K2:=Hd (P.gone η);obtain⟨⟨_,_,x2,O⟩,L,M⟩:=P.cells;clear d i))
     obtain⟨w7,sD⟩:∃w7,w4.setCell ⟨wr.heap.size,0,ε⟩ (Γ X)=w7:=⟨_,lc⟩
     rw[sD]at D T U H R S|-;clear sD x0 x1 x2 O L M V;first|go_region_with (go_at_call 50;refine(BS.o _).mono ?_;rintro e w8 ⟨rfl,d⟩;have E:=Hd (D.below (w2:=w8) (by first|exact d|exact((qy _ _).drew).trans d));obtain⟨⟨T,U,H,V⟩,R,S⟩:=E.cells;clear d)|fail
     all_goals
      go_wp2_with (at_builtin;(refine aH _ lc (.tmp 87) (.tmp 89) 108 lc (w.heap.size+2) 60 ci _ 3 40 underlying108 HI.1 HI.2.1 HI.2.2.1 HI.2.2.2 lc (by decide) (.slice sa out.length cp) out.length (kg out) lc (E.u.r.alloc _) ⟨w8.heap.size,0,ε⟩ 1 1 [Γ X,Γ ⟨#[]⟩,χ η] lc lc (F3 w8 _ _ _ _) (by intro u hu;simp at hu;rcases hu with rfl|rfl|rfl<;>rfl) (by unfold bj;omega) (by omega) (by have:=E.u.lt;simp;omega) ?_;intro H w9 fu gV _;obtain⟨jF,jI,iQ⟩:=jq fu;rw[iQ]at fu;have K9:=Hd (E.app lc gV fu);rw[iQ];clear fu gV iQ))
      go_roundw;case rel=>exact⟨out++[⟨X.data.toList,([]:Bs),η⟩],jF,jI,j+1,c3.2.1,c3.2.2,by simp,by go_num,by omega,Hd ⟨by rw[mH.o];simpa using K9.o,by rw[OO.o,J.e];exact ng.1,λe=>by have:=ng.2;have:=J.z lc;simp;omega,by have d:=ng.2;have i:=J.z lc;simp;omega⟩⟩
      case measure=>simp[intOf]<;>omega
    all_goals
     have pq:Hid (qD f.qb f.load=ε):=Hd (by rw[J.e];exact lF.2.1 vU.o);go_wp2_with (first|(go_at_call 134;refine(wG K2.u.c).mono ?_;rw[E2.o,qx HT.1];rintro e w4 ⟨rfl,d,i⟩;have K3:=Hd (K2.cur d i);have D:=Hd (K3.key X);obtain⟨⟨x0,x1,_,O⟩,L,M⟩:=K3.cells;obtain⟨⟨T,U,H,V⟩,R,S⟩:=D.cells;clear d i)|(go_at_call 132;refine(zW Y.u.c).mono ?_;rw[E1.o];rintro e w3 ⟨rfl,d,i⟩;have P:=Hd (Y.cur d i);have K2:=Hd (P.gone η);obtain⟨⟨_,_,x2,O⟩,L,M⟩:=P.cells;clear d i))
     obtain⟨w7,sD⟩:∃w7,w4.setCell ⟨wr.heap.size,0,ε⟩ (Γ X)=w7:=⟨_,lc⟩
     rw[sD]at D T U H R S|-;clear sD x0 x1 x2 O L M V;first|go_region_with (go_at_call 50;refine(BS.o _).mono ?_;rintro e w8 ⟨rfl,d⟩;have E:=Hd (D.below (w2:=w8) (by first|exact d|exact((qy _ _).drew).trans d));obtain⟨⟨T,U,H,V⟩,R,S⟩:=E.cells;clear d)|fail
     all_goals
      go_wp2;all_goals
       go_ret2;rw[pq.o];exact .no E.u.b
   have pq:Hid (qD f.qb f.load=ε):=Hd (by rw[J.e];exact I.1 (by omega));have i1:((op:fo) !=1)=η:=by simp;omega
   have i2:((op:fo) !=2)=η:=by simp;omega
   clear I ht;go_wp2_with (go_at_call 132;refine(zW Y.u.c).mono ?_;rw[E1.o];rintro e w3 ⟨rfl,d,i⟩;have P:=Hd (Y.cur d i);clear d i)
   go_ret2;rw[pq.o];exact .no P.u.b
end
end
namespace Ph
open Go.Conc Go.ConcN Go.RowKit Go.Maps Go.Conc.Lib Go Sim
section
variable {w w':ah} {F:gF->Prop} {B:MA} {s:St}
structure LpW (w0:ah) (F:gF->Prop) (B:MA) (s:St) (f:Fr) (fb j:gF) (e:RSg) (cs:gJ Chg) (lv:al) (q:gF) (v:al) (w:ah):Prop where
 r:RwW w0 F B s f fb j e {e.x with kv:=(cs.take q).foldl doL e.x.kv} v w
 l:Go.Proofs.YtkpekiajdlolnabGreat.nC w lv cs
 lo:∀b,lv.ownBlock=ζ b->w0.heap.size<=b
section
variable {w0:ah} {f:Fr} {fb j g cp q:gF} {e:RSg} {v v' lv:al} {cs:gJ Chg} {c:Chg}
theorem LpW.idle (h:LpW w0 F B s f fb j e cs lv q v w) (d:But (λ_=>gI) w w'):LpW w0 F B s f fb j e cs lv q v w':=⟨h.r.idle d,h.l.block λg i=>d.keep g (World.ownsRow.lt h.l g i).2 id,h.lo⟩
theorem LpW.cells {sa:jb Addr} {n cp:gF} (h:LpW w0 F B s f fb j e cs (.slice sa n cp) q v w) (C:cs[q]?=ζ c):n=cs.length/\∃g,sa=ζ ⟨g,0,ε⟩/\w.cell? ⟨g,q*3,ε⟩=ζ (sv c.k)/\w.cell? ⟨g,q*3+1,ε⟩=ζ (sv c.v)/\w.cell? ⟨g,q*3+2,ε⟩=ζ (χ c.g):=by obtain⟨R,_⟩:=ai.1 C;have p:=h.l;unfold Go.Proofs.YtkpekiajdlolnabGreat.nC at p;rcases p.2 with⟨D,S⟩|⟨g,E,cur,D,_⟩;{omega};injection D with H I J;subst H I J;obtain⟨M,O,P⟩:=Jp cs q c C;have d:=λi u L=>p.cells (g:=g) lc i u L;have r:=d _ _ M;have t:=d _ _ O;have z:=d _ _ P;rw[ax,aD]at r t z;exact⟨lc,g,lc,r,t,z⟩
theorem LpW.succ {base:gF} (h:LpW w0 F B s f fb j e cs lv q v w) (M:B.sg=Δ (ζ ⟨g,0,ε⟩) B.sl.length cp) (J:j<B.sl.length) (I:F g/\g<w0.heap.size) (H:cs[q]?=ζ c) (t:But (λ_=>gI) w w') (d:yx w' base v' (doL ((cs.take q).foldl doL e.x.kv) c)) (O:w0.heap.size<=base):
  LpW w0 F B s f fb j e cs lv (q+1) v' (w'.setCell ⟨g,j*6+4,ε⟩ v'):=by
 obtain⟨L,rfl⟩:=ai.1 H;have z:(cs.take (q+1)).foldl doL e.x.kv=doL ((cs.take q).foldl doL e.x.kv) cs[q]:=by rw[List.take_succ_eq_append_getElem L,List.foldl_append];rfl
 have p:=h.idle t;refine⟨?_,p.l.block λb C=>xho _ _ _ _ λe=>?_,h.lo⟩;{rw[z];exact p.r.set M J I (by decide) lc ⟨⟨d.1.1,d.1.2.imp id λ⟨g,i,cur,D,p,E⟩=>⟨g,i,cur,D,xzl _,E⟩⟩,d.2⟩ λb t=>.inr (xlt O (d.1.lt b t).1)};have:=h.lo b C;have e:b=g:=e;omega
end
theorem q1g (k x:bn):ao prog 52 #[Δ ε 0 0,Θ #[Γ k,Γ x,χ η]] w (Ja w []):=by
 have L:=Hd (λw'=>at_nil (w:=w') k);go_enter func52,ntmps52;go_wp2_with (first
  |(go_at_call 51;refine(L.o _).mono ?_;rintro e w1 ⟨rfl,t⟩;have H1:=Hd (CA.of t);obtain⟨c0,c1,c2⟩:=H1.1;clear t)
  |(at_builtin;refine yu (v:=Δ ε 0 0) (sa:=ε) (m:=0) (news:=[]) lc (.const (Δ ε 0 0)) (.tmp 17) lc lc lc (aj _ w1.heap.size _ _) (lu.nil _) Src.nil (by omega) (jg _) ?_;intro S w2 p I d;have J:=Hd (H1.1.grown d (λe=>by cases e));obtain⟨M,O,P⟩:=J.o;have U:=Hd (xlt (jg w1.heap.size) d.size);have H:=Hd p;have V:=Hd I;have z:=Hd (H1.2.1.grown d (aK H1.2.2) (λj R=>by cases R));clear p I d)
  |(at_builtin;refine yu (v:=S) (sa:=ε) (m:=0) (news:=[]) lc (.tmp 33) (.tmp 36) lc lc lc H.o V.o Src.nil (by omega) U.o ?_;intro T X r E D;have C:=xk z.o D H.o (aK H1.2.2) z.size;have i:=Hd (ac (ac r E) C);clear r E D C)
  )
 all_goals go_ret
 all_goals exact⟨T,lc,Bh i.1.1 i.1.2 (aK H1.2.2) (by simp[Ad]),i.2⟩
theorem q46 {v:al} {l:KV} (d:yx w 0 v l) (E:l.length<=1073741822) (J:yh l) (k x:bn) (g:iO):ao prog 52 #[v,Θ #[Γ k,Γ x,χ g]] w (Ja w (doL l ⟨k.data.toList,x.data.toList,g⟩)):=by
 obtain⟨i,p,r,t,z⟩:=Gm J k.data.toList;have e:doL l ⟨k.data.toList,x.data.toList,g⟩=Et l k.data.toList x.data.toList g:=by cases g;{exact(z _).symm};exact(t _).symm
 rw[e];rcases d.1.2 with⟨rfl,I⟩|⟨b,C,cur,rfl,_,_,D,_⟩;{obtain rfl:l=[]:=List.eq_nil_of_length_eq_zero I;cases g;{exact WI k x};exact q1g k x};refine Xu k x g d D E lc lc i λh=>?_;rw[p]at h;obtain⟨v,H⟩:=Option.isSome_iff_exists.1 h;exact(ai.1 (r v H)).1
theorem q8a {L:KV} (h:yh L) (c:Chg):yh (doL L c):=by unfold doL;split;{exact QI h _};exact X3 h _ _
theorem Xd:∀(cs:gJ Chg) (L:KV),yh L->yh (cs.foldl doL L)
 |[],L,h=>h
 |c::cs,L,h=>Xd cs _ (q8a h c)
theorem qx7 (p:ku w F B s) (Hg:s.hosts<=4) (Y:∀h k x,h<4->k<4->s.sg h k=ζ x->x.kv.length<=268435456/\x.next<=4611686018427387904/\yh x.kv) (h:fo) (u:bn) (hu:u.size<=1048576) (Dm: -9223372036854775808<=h/\h<=9223372036854775807):
  ao prog 64 #[ξ (ζ ⟨B.ml,0,ε⟩),σ υ h,Γ u] w (jU w F B (ο #[sv (dlR s h u.data.toList).1,σ υ (dlE s h)]) (dlR s h u.data.toList).2):=by
 have c0:w.cell? ⟨B.ml,0,ε⟩=ζ (σ υ s.hosts):=(p.cells 0 _ lc).1;have H:=Hd p;unfold dlR dlE;by_cases qA:h<0\/s.hosts<=h
 .rw[eD qA,eD qA];clear p Y;have X:ν (h<0)=η\/ν (h<0)=θ/\ν ((s.hosts:fo)<=h)=η:=by simp;omega
  rcases X with g1|⟨g1,g2⟩;all_goals
   go_enter func64,ntmps64;go_wp2;go_ret2;exact .idleB H.o (But.refl _ _)
 rw[dw qA,dw qA];obtain⟨h,rfl⟩:∃n:gF,h=n:=⟨h.toNat,by omega⟩
 have Oy:h<4:=by omega
 rw[aG];have g1:ν ((h:fo)<0)=θ:=xdf (by omega);have g2:ν (s.hosts<=h)=θ:=xdf (by omega);have T:=Hd (IU (w:=w) u hu);unfold vg at T;cases iT:jY u.data.toList with
 |none=>
  rw[iT]at T;clear p Y;go_enter func64,ntmps64;go_wp2_with (go_at_call 104;refine T.mono ?_;rintro e w1 ⟨⟨f,rfl⟩,t⟩;obtain⟨ld,M⟩:=qc f.load;rw[yF M];have L:=Hd t;clear t M)
  go_ret2;exact .idleB H.o (L.trans (il ((qy _ _).alloc (jg _) _)))
 |some f=>
  rw[iT]at T;have Fq:=(MO iT).2;have OW:=Hd Fq;obtain⟨ld,M⟩:=qc f.load;have d:=Hd M;clear iT;cases fP:Cj f
  .have hbi:(3:fo)<f.qb\/(f.kind:fo)<1\/(4:fo)<f.kind:=by simp only[Cj,Bool.and_eq_false_iff,decide_eq_false_iff_not]at fP;omega
   simp only[fP,aS,if_false];clear p Y M fP;go_enter func64,ntmps64;go_wp2_with (go_at_call 104;refine T.mono ?_;rintro e w1 ⟨rfl,t⟩;rw[yF d.o];have L:=Hd t;clear t)
   all_goals first
    |(exfalso;omega)
    |(go_ret2
      exact .idleB H.o (L.trans (il ((qy _ _).alloc (jg _) _))))
  simp only[fP,if_true];simp only[Cj,aJ,decide_eq_true_eq]at fP;obtain⟨⟨qE,rD⟩,SN⟩:=fP;have j1:ν ((3:fo)<f.qb)=θ:=xdf (by omega);have j2:ν ((f.kind:fo)<1)=θ:=xdf (by omega);have j3:ν ((4:fo)<f.kind)=θ:=xdf (by omega);have DF:=Hd Oy;have mY:=Hd qE;have TT:=Hd Y;have HA:=Hd (λk U W=>VG f Fq k U ld W);obtain⟨a5,h5⟩:=qc (kK f 5);obtain⟨a6,h6⟩:=qc (kK f 6);have vW:=Hd (qx h5);have KU:=Hd (qx h6);have yZ:=Hd (ac (show h<256 by omega) (show f.qb<256 by omega));have NV:=QH p.yc Oy qE;have gX:ld.toList.isEmpty=f.load.isEmpty:=by rw[ae,M]
  have hlen:=p.yc.few;clear h5 h6;by_cases U:f.kind=1
  .have Dl:((f.kind:fo)==1)=η:=by simp[U]
   obtain⟨av,hav⟩:=qc (dlF f (s.sg h f.qb)).1;have HAV:=Hd hav;have HOC:=Hd (λ(w2:ah) (m:ku w2 F B s)=>q18 m h Oy f Fq qE U ld M);clear p Y M Fq U NV gX hav;go_enter func64,ntmps64;go_wp2_with (first
    |(go_at_call 104;refine T.mono ?_;rintro e w1 ⟨rfl,t⟩;rw[yF d.o];have L:=Hd t;clear t)
    |(go_at_call 105;refine(I5 (OfW.of (f:=f) H.o L.o d.o).m h f.qb yZ.1 yZ.2).mono ?_;rintro e w2 ⟨rfl,J⟩;have D:=Hd ((OfW.of (f:=f) H.o L.o d.o).idle J);obtain⟨k0,k1,k2,k3,k4,m2⟩:=D.cells d.o;clear J)
    |(go_at_call 106;refine(HOC.o _ D.m).mono ?_;intro e w3 h3;have h4:=jU.lift D.b h3;clear h3;obtain⟨rfl,h4⟩:=h4;rw[qx HAV.o];have H4:=Hd h4;clear h4))
   go_ret2;obtain⟨B',e1,e2,e3⟩:=H4.o;exact⟨by rw[qx HAV.o];rfl,B',e1,e2,e3⟩
  have Dl:((f.kind:fo)==1)=θ:=by simp;omega
  have Z0:ld.size<=268435456:=by rw[jl M];exact aK Fq.load
  have wV:Hid (((f.kind:fo)==4)=θ->∀W,ao prog 108 #[Θ #[σ υ f.kind,σ υ f.qb,σ υ f.id,σ υ f.n,Γ ld]] W (Bo W (yC f.kind f.qb f.load))):=Hd λ_ W=>by unfold yC;by_cases J:f.kind=2;{rw[eD J];exact q73 f J ld M Z0};rw[dw J];exact q76 f J ld M Z0
  obtain⟨sa,cp,hv⟩:=jq p.yc.r;rcases NV with⟨e1,wm⟩|⟨j,e,e1,z,he,rfl,vJ,ni⟩
  .have sJ:Hid (dlF f (s.sg h f.qb)=(kK f 6,s.sg h f.qb)):=Hd (by unfold dlF;rw[wm,dw U]);have TW:=Hd e1;clear p Y M Fq U gX e1 hv;go_enter func64,ntmps64;go_wp2_with (first
    |(go_at_call 104;refine T.mono ?_;rintro e w1 ⟨rfl,t⟩;rw[yF d.o];have L:=Hd t;clear t)
    |(go_at_call 105;refine(I5 (OfW.of (f:=f) H.o L.o d.o).m h f.qb yZ.1 yZ.2).mono ?_;rw[TW.o];rintro e w2 ⟨rfl,J⟩;have D:=Hd ((OfW.of (f:=f) H.o L.o d.o).idle J);obtain⟨k0,k1,k2,k3,k4,m2⟩:=D.cells d.o;clear J))
   go_quiet (fail);have D1:=Hd (D.drewN nq);generalize w2.drewN nq=V at D1|-;obtain⟨k0,k1,k2,k3,k4,m2⟩:=D1.cells d.o;go_wp2_with (go_at_call 107;refine(HA.o 6 (by decide) _).mono ?_;rw[KU.o];rintro e w9 ⟨rfl,C⟩;have S:=Hd C;clear C)
   go_ret2;exact D1.Q9 H.o S.o sJ.o (by rw[KU.o];rfl)
  obtain⟨_,g,rfl,_⟩:=p.yc.cells hv he;have I:=Hd hv;have HG:Hid (F g/\g<w.heap.size):=Hd ⟨p.yc.rF g (by rw[hv];rfl),(p.yc.r.lt g (by rw[hv];rfl)).2⟩;obtain⟨rD,rA,Oq⟩:=Y e.h f.qb e.x Oy qE ni;have HK:=Hd (ac rD Oq);have OV:=Hd vJ;have HJ:=Hd he;have TW:=Hd e1;have HO:=Hd ni;have HW:=Hd (P8 f ni gX);clear p Y M Fq U hv rD Oq vJ he ni e1;go_enter func64,ntmps64;go_wp2_with (first
   |(go_at_call 104;refine T.mono ?_;rintro e w1 ⟨rfl,t⟩;rw[yF d.o];have L:=Hd t;clear t)
   |(go_at_call 105;refine(I5 (OfW.of (f:=f) H.o L.o d.o).m e.h f.qb yZ.1 yZ.2).mono ?_;rw[TW.o];rintro R V ⟨rfl,J⟩;have D:=Hd ((OfW.of (f:=f) H.o L.o d.o).idle J);obtain⟨k0,k1,k2,k3,k4,m2⟩:=D.cells d.o;clear J))
  rw[I.o]at m2;obtain⟨_,_,_,r2,r3,r4,r5,rf⟩:=D.m.yc.Aa I.o HJ.o;rcases HW.o with⟨q,_⟩|⟨_,X⟩;{rw[Dl]at q;cases q}
  iterate 4
   try go_wp2
   rcases X with⟨i,E⟩|⟨i,X⟩;try(have i3:=E.1;replace E:=E.2)
   rotate_left
   try(have i3:=X.1;replace X:=X.2)
   go_quiet (fail);have D:=Hd (D.drewN nq);generalize V.drewN nq=V at D|-;obtain⟨k0,k1,k2,k3,k4,m2⟩:=D.cells d.o;rw[I.o]at m2;obtain⟨_,_,_,r2,r3,r4,r5,rf⟩:=D.m.yc.Aa I.o HJ.o
  rcases X with⟨nI,E⟩|⟨nI,E⟩;rotate_left
  rw[nI]at r5;rcases jai f HO.o nI gX E with⟨i6,⟨he,E⟩|⟨he,E⟩⟩|⟨i6,⟨Oo,E⟩|⟨cs,Oo,E⟩⟩;all_goals clear gX
  rotate_left
  .have sJ:=Hd E;clear E;have R0:=RwW.of D.o HJ.o L.size;have R1:=R0.set (x':=⟨e.x.id,e.x.next,e.x.kv,η⟩) (v':=e.v) (u:=χ η) (i:=5) I.o z HG.o (by decide) lc (R0.row z).1 (R0.row z).2;obtain⟨⟨t2,t3,t4,t5,tf⟩,q0,q1,q2,q3,q4⟩:=R1.cells I.o z d.o;have R2:=Hd (R1.set (x':=⟨e.x.id,e.x.next+1,e.x.kv,η⟩) (v':=e.v) (u:=σ υ (e.x.next+1)) (i:=3) I.o z HG.o (by decide) lc (R1.row z).1 (R1.row z).2);obtain⟨_,z0,z1,z2,z3,z4⟩:=R2.cells I.o z d.o;clear R0 R1;go_wp2_with (go_at_call 107;refine(HA.o 5 (by decide) _).mono ?_;rw[vW.o];rintro R w9 ⟨rfl,C⟩;have S:=Hd C;clear C)
   go_ret2;rw[sJ.o];have H8:=R2.fin (v':=ο #[sv (kK f 5),σ υ 0]) S.o (u:=ο #[Γ a5,σ υ 0]) (by rw[vW.o]);rw[OV.o]at H8;exact H8
  rotate_left
  .have mG:cs.length<=268435456:=by have:=(Qg Oo).2;have:=OW.load;omega
   replace wV:=Hd (wV.o i6);rw[Oo]at wV;have sJ:=Hd E;clear E;go_wp2_with (go_at_call 108;refine(wV.o _).mono ?_;rintro R w9 ⟨⟨v9,rfl,r9,o9⟩,C⟩;obtain⟨sa,TG,hv9⟩:=jq r9;rw[hv9]at r9 o9|-;have K9:Hid (LpW w F B s f w1.heap.size j e cs (.slice sa cs.length TG) 0 e.v w9):=Hd ⟨(RwW.of D.o HJ.o L.size).idle C,r9,λb hb=>xlt D.b.size (o9 b hb)⟩;clear C r9 o9 hv9)
   go_loopw [129] (λi wr=>∃q:gF,q<=cs.length/\i=σ υ q/\Hid (∃v,LpW w F B s f w1.heap.size j e cs (.slice sa cs.length TG) q v wr)) (λi _=>cs.length-(intOf i).toNat);case atStart=>exact⟨0,xzl _,lc,Hd ⟨_,K9.o⟩⟩
   case round=>
    obtain⟨q,hq,rfl,HX⟩:=hrel;obtain⟨v,hL⟩:=HX.o;have HL:=Hd hL;clear hL;by_cases Sz:q<cs.length
    .obtain⟨c,hc⟩:∃c,cs[q]?=ζ c:=⟨_,ay Sz⟩
     obtain⟨_,g2,rfl,d1,d2,d3⟩:=HL.cells hc;obtain⟨O,iF⟩:=qc c.k;obtain⟨P,kN⟩:=qc c.v;rw[qx iF]at d1;rw[qx kN]at d2;obtain⟨qP,rM,Oe⟩:=jq (HL.r.row z).1.1;have Oe:v=.slice qP ((cs.take q).foldl doL e.x.kv).length rM:=Oe;obtain⟨nv,hnv⟩:∃nv,((cs.take q).foldl doL e.x.kv).length=nv:=⟨_,lc⟩
     rw[hnv]at Oe;subst Oe;have HP:=Hd (HL.idle (il ((qy wr.heap.size wr).alloc (jg _) (ω #[Γ O,Γ P,χ c.g] 60))));have KO:Hid (∀wb,Below (wr.alloc (ω #[Γ O,Γ P,χ c.g] 60)).heap.size (wr.alloc (ω #[Γ O,Γ P,χ c.g] 60)) wb->ao prog 52 #[.slice qP nv rM,Θ #[Γ O,Γ P,χ c.g]] wb λR w'=>∃v',R=ψ v'/\(∃rO n3 sI,v'=.slice rO n3 sI)/\LpW w F B s f w1.heap.size j e cs (Δ (ζ ⟨g2,0,ε⟩) cs.length TG) (q+1) v' (w'.setCell ⟨g,j*6+4,ε⟩ v')/\w'.cell? ⟨g,j*6+4,ε⟩=ζ (.slice qP nv rM)/\w'.frozen? ⟨g,j*6+4,ε⟩=θ):=Hd λwb hb=>by have hp:=HP.idle (il hb);have hf:=WB (cs.take q) e.x.kv;have rD:=HK.1;rw[aW]at hf;refine(q46 (hp.r.row z).1 (by show((cs.take q).foldl doL e.x.kv).length<=_;omega) (Xd _ _ HK.2) O P c.g).mono ?_;rintro R w' ⟨v',rfl,t,J⟩;rw[iF,kN]at t;obtain⟨rO,sI,nY⟩:=jq t.1;have gB:But (λ_=>gI) wb w':=il J;have hs:=hp.succ I.o z HG.o hc gB t hp.r.b.size;obtain⟨⟨_,_,c4,_,cf⟩,_⟩:=(hp.idle gB).r.cells I.o z d.o;exact⟨v',lc,⟨_,_,_,nY⟩,hs,c4,cf _⟩
     obtain⟨⟨_,_,b4,_,bf⟩,_⟩:=HP.r.cells I.o z d.o;clear hc iF kN;go_wp2;have x0:(wr.alloc (ω #[Γ O,Γ P,χ c.g] 60)).cell? ⟨wr.heap.size,0,ε⟩=ζ (Γ O):=by go_simp
     have x1:(wr.alloc (ω #[Γ O,Γ P,χ c.g] 60)).cell? ⟨wr.heap.size,1,ε⟩=ζ (Γ P):=by go_simp
     have x2:(wr.alloc (ω #[Γ O,Γ P,χ c.g] 60)).cell? ⟨wr.heap.size,2,ε⟩=ζ (χ c.g):=by go_simp
     obtain⟨wa,JS⟩:∃wa,wr.alloc (ω #[Γ O,Γ P,χ c.g] 60)=wa:=⟨_,lc⟩
     rw[JS]at KO b4 bf x0 x1 x2|-;clear JS d1 d2 d3 HP;go_region_with (go_at_call 52;refine(KO.o _ (by first|exact qy _ _|exact(qy _ _).drew)).mono ?_;rintro R w3 ⟨v3,rfl,⟨rO,n3,sI,rfl⟩,h3,c3,f3⟩;have H3:=Hd h3;clear h3)
     all_goals
      go_wp2;go_roundw;case rel=>exact⟨q+1,by omega,by go_num,Hd ⟨_,(by first|exact H3.o|exact H3.idle (il (qy _ _).drew))⟩⟩
      case measure=>simp[intOf]<;>omega
    .obtain rfl:q=cs.length:=by omega
     obtain⟨⟨t2,t3,t4,t5,tf⟩,q0,q1,q2,q3,q4⟩:=HL.r.cells I.o z d.o;have R2:=Hd (HL.r.set (x':=⟨e.x.id,e.x.next+1,(cs.take cs.length).foldl doL e.x.kv,e.x.done⟩) (v':=v) (u:=σ υ (e.x.next+1)) (i:=3) I.o z HG.o (by decide) lc (HL.r.row z).1 (HL.r.row z).2);obtain⟨_,z0,z1,z2,z3,z4⟩:=R2.cells I.o z d.o;go_wp2_with (go_at_call 107;refine(HA.o 5 (by decide) _).mono ?_;rw[vW.o];rintro R w9 ⟨rfl,C⟩;have S:=Hd C;clear C)
     go_ret2;rw[sJ.o];have H8:=R2.fin (v':=ο #[sv (kK f 5),σ υ 0]) S.o (u:=ο #[Γ a5,σ υ 0]) (by rw[vW.o]);rw[OV.o,nI,List.take_length]at H8;exact H8
  iterate 4
   go_quiet (fail);have D:=Hd (D.drewN nq);generalize V.drewN nq=V at D|-;obtain⟨k0,k1,k2,k3,k4,m2⟩:=D.cells d.o;rw[I.o]at m2;obtain⟨_,_,_,r2,r3,r4,r5,rf⟩:=D.m.yc.Aa I.o HJ.o;rotate_left
  all_goals
   first
    |(rw[show kK f 6=kK f 6 from lc]at E;have HC:=Hd (HA.o 6 (by decide));have HQ:=KU)
    |(have HC:=Hd (HA.o 5 (by decide));have HQ:=vW)
   have sJ:=Hd E;clear E;try rw[nI]at r5
   try(replace wV:=Hd (wV.o i6);rw[Oo]at wV)
   go_wp2_with (first|(go_at_call 107;refine(HC.o _).mono ?_;rw[HQ.o];rintro R w9 ⟨rfl,C⟩;have S:=Hd C;clear C)|(go_at_call 108;refine(wV.o _).mono ?_;rintro R w9 ⟨⟨v9,rfl⟩,C⟩;have S:=Hd C;clear C))
   go_ret2;first
    |exact D.Q9 H.o (But.refl _ _) sJ.o lc
    |exact D.Q9 H.o S.o sJ.o (by first|rfl|(rw[HQ.o];rfl))
end
end Ph
open Go.RowKit Go.Maps Ph
section
variable {x:gF->al} {w w1:ah} {Q:Exit->Act->ah->Prop} {o:OpV} {W ob pb k n0 n m:gF} {cs:gJ Cst} {c c':Cst} {kd:fo}
def turned (b:bn) (j:gF) (v:fo):gJ UInt8:=b.data.toList.set j (UInt8.ofNat (v%256).toNat)
theorem qvu (w:ah) (g j:gF) {cur:jC al} {e:bD} {fr:gF×gF} (v:al) (h:w.heap[g]?=ζ (.cells cur e fr)):(w.setCell ⟨g,j,ε⟩ v).heap[g]?=ζ (.cells (cur.setIfInBounds j v) e fr):=by simp[World.setCell,Array.getElem?_modify,h]
theorem XK (b:bn) (j:gF) (v:fo):(turned b j v).length=b.size:=by unfold turned;rw[bg];simp
theorem Q0 (b:bn) (cap i:gF) (d:i<b.size):(bytesRow b cap)[i]?=ζ (σ Ξ ((b.data.toList[i]'(by simpa using d)).toNat:fo)):=by unfold bytesRow;rw[Array.getElem?_append_left (by simpa using d),Array.getElem?_map,Array.getElem?_eq_getElem (by simpa using d)];rfl
theorem qws {b:bn} {cap z:gF} (d:w.heap[N]?=ζ (.cells (bytesRow b cap) 5 (z,z+1))):(convert 139 9 (Δ (ζ ⟨N,0,ε⟩) b.size cap)).run prog w=.ok (Γ b) w:=by
 have h:=aL (P:=prog) w 139 9 5 ⟨N,0,ε⟩ cap b.data.toList underlying139 underlying5 underlying9 (λj i=>by
  rw[ax,aD];have:=Q0 b cap j (by simpa using i);unfold aa
  simp[d,this])
 simpa using h
theorem qt0 {b:bn} {cap z q:gF} {v:fo} (r:w.heap[N]?=ζ (.cells ((bytesRow b cap).setIfInBounds q (σ Ξ (v%256))) 5 (z,z+1))):(convert 139 9 (Δ (ζ ⟨N,0,ε⟩) b.size cap)).run prog w=.ok (Γ ⟨(turned b q v).toArray⟩) w:=by
 have h:=aL (P:=prog) w 139 9 5 ⟨N,0,ε⟩ cap (turned b q v) underlying139 underlying5 underlying9 (λj t=>by
  rw[ax,aD];have i:j<b.size:=by simpa[turned]using t
  have d:=Q0 b cap j i;have p:=(j5 d).1;unfold aa;simp only[r];by_cases e:q=j;{subst e;rw[xsl p];simp only[turned,List.getElem_set_self];simp;omega}
  .rw[xne e,d]
   simp[turned,List.getElem_set_ne e])
 have C:(turned b q v).length=b.size:=XK b q v;rw[C]at h;exact h
theorem qvz (b:bn) (q:gF) (v:fo):(⟨(turned b q v).toArray⟩:bn).size=b.size:=by show(turned b q v).toArray.size=_;rw[List.size_toArray,XK]
theorem Wt (h:zy n0 w W n cs) (hn:n<=1073741820) (L:(-9223372036854775808<=o.d/\o.d<=9223372036854775807)/\(-9223372036854775808<=o.e/\o.e<=9223372036854775807)/\(-9223372036854775808<=o.f/\o.f<=9223372036854775807)):
  ao prog 62 #[ξ (ζ ⟨W,0,ε⟩),.agg o.cells] w λe w'=>∃u:bn,e=ψ (Γ u)/\(u=o.u\/u.size<=64)/\Below w.heap.size w w':=by
 obtain⟨CS,S,lm,bs,z⟩:=h.b;obtain⟨cur,I,_,_,M,_⟩:=z.ls.b;obtain⟨sa,cp,E⟩:=ug z.br;have c1:w.cell? ⟨W,1,ε⟩=ζ (.slice sa bs.length cp):=by rw[<-E];simp[aa,I,M]
 have gQ:=z.le.2.1;have Wlt:=(j5 I).1;by_cases hu:o.u.size=0
 .have gX:o.u.toList.isEmpty=η:=by rw[toList_nil hu];rfl
  by_cases hz:bs.length=0;{rw[hz]at c1;clear h z I M E gQ L hu;unfold OpV.cells at*;go_enter func62,ntmps62;go_wp2;go_ret;exact⟨o.u,lc,.inl lc,(qy _ _).alloc (jg _) _⟩}
  .obtain⟨q,U⟩:∃q,yA o.d bs.length=q:=⟨_,lc⟩
   have Sz:q<bs.length:=by rw[<-U];exact Wl (by omega)
   obtain⟨b,D⟩:∃b,bs[q]?=ζ b:=⟨_,ay Sz⟩
   have Z9:b.length<=64:=z.le.2.2 b (aq D);obtain⟨i,O⟩:=qc b;have Fv:i.size<=64:=by rw[jl O];exact Z9
   obtain⟨g,rfl,d0⟩:∃g,sa=ζ ⟨g,0,ε⟩/\w.cell? ⟨g,q,ε⟩=ζ (Γ i):=by rcases z.br.2 with⟨_,sj⟩|⟨g,cap,cur,iQ,_⟩;{omega};rw[iQ]at E;injection E with R h2 h3;refine⟨g,R.symm,?_⟩;have:=z.br.cells (g:=g) (by rw[iQ];rfl) q (Γ i) (by rw[List.getElem?_map,D,<-qx O];rfl);rwa [ax,aD]at this
   have HQ:=Hd U;have H0:Hid (0<bs.length/\bs.length<=4398046511104):=Hd (by omega);have HD:=Hd L;have KP:=Hd Fv;have wP:=λw s=>run_bytes_of_string (P:=prog) w 9 139 5 s underlying9 underlying139 underlying5;clear h z I M E L U D Z9 O Fv;unfold OpV.cells at*;go_enter func62,ntmps62;go_wp2;have C:=(qy w.heap.size w).alloc (jg _) (ω #[σ υ o.k,σ υ o.a,σ υ o.b,σ υ o.c,σ υ o.d,σ υ o.e,σ υ o.f,Γ o.s,Γ o.t,Γ o.u] 30);have o4:(w.alloc (ω #[σ υ o.k,σ υ o.a,σ υ o.b,σ υ o.c,σ υ o.d,σ υ o.e,σ υ o.f,Γ o.s,Γ o.t,Γ o.u] 30)).cell? ⟨w.heap.size,4,ε⟩=ζ (σ υ o.d):=by go_simp
   have o5:(w.alloc (ω #[σ υ o.k,σ υ o.a,σ υ o.b,σ υ o.c,σ υ o.d,σ υ o.e,σ υ o.f,Γ o.s,Γ o.t,Γ o.u] 30)).cell? ⟨w.heap.size,5,ε⟩=ζ (σ υ o.e):=by go_simp
   have o6:(w.alloc (ω #[σ υ o.k,σ υ o.a,σ υ o.b,σ υ o.c,σ υ o.d,σ υ o.e,σ υ o.f,Γ o.s,Γ o.t,Γ o.u] 30)).cell? ⟨w.heap.size,6,ε⟩=ζ (σ υ o.f):=by go_simp
   have cX:=(C.cell (xbl w _ c1)).trans c1;have dX:=(C.cell (xbl w _ d0)).trans d0;have hX:w.heap.size<(w.alloc (ω #[σ υ o.k,σ υ o.a,σ υ o.b,σ υ o.c,σ υ o.d,σ υ o.e,σ υ o.f,Γ o.s,Γ o.t,Γ o.u] 30)).heap.size:=by simp
   generalize w.alloc (ω #[σ υ o.k,σ υ o.a,σ υ o.b,σ υ o.c,σ υ o.d,σ υ o.e,σ υ o.f,Γ o.s,Γ o.t,Γ o.u] 30)=X at C o4 o5 o6 cX dX hX|-;go_region_with (go_at_call 23;refine(YI _ _ H0.1 H0.2 HD.1.1 HD.1.2).mono ?_;rintro e w1 ⟨rfl,rfl⟩;rw[HQ.o])
   all_goals
    generalize grownCap (World.drew X) i.size 0 5=cap;obtain⟨Y,H⟩:∃Y,((X.alloc (.cells (bytesRow i cap) 5 ((bytesRow i cap).size,(bytesRow i cap).size+1))).drew).drew=Y:=⟨_,lc⟩
    have BY:Below w.heap.size w Y:=by rw[<-H];exact((C.alloc C.size _).drew).drew
    have J:Y.heap[X.heap.size]?=ζ (.cells (bytesRow i cap) 5 ((bytesRow i cap).size,(bytesRow i cap).size+1)):=by rw[<-H];exact au _ _
    have yo:Y.heap[w.heap.size]?=X.heap[w.heap.size]?:=by rw[<-H];exact aE X _ hX
    have y5:Y.cell? ⟨w.heap.size,5,ε⟩=ζ (σ υ o.e):=(xcb yo).trans o5;have y6:Y.cell? ⟨w.heap.size,6,ε⟩=ζ (σ υ o.f):=(xcb yo).trans o6;rw[H];clear H yo;by_cases he:0<=o.e/\o.e<i.size
    .obtain⟨r,T⟩:∃r:gF,o.e=r:=⟨o.e.toNat,by omega⟩
     rw[T]at y5;have iR:r<i.size:=by omega
     have hjd:ν (r<i.size)=η:=xdt iR;have V:=Q0 i cap r iR;have hrl:=(j5 V).1;have hc:Y.cell? ⟨X.heap.size,r,ε⟩=ζ (σ Ξ ((i.data.toList[r]'(by simpa using iR)).toNat:fo)):=by simp[aa,J,V]
     have hf:Y.frozen? ⟨X.heap.size,r,ε⟩=θ:=by simp[aQ,J];omega
     have D:=qt0 (w:=Y.setCell ⟨X.heap.size,r,ε⟩ (σ Ξ (o.f%256))) (b:=i) (cap:=cap) (v:=o.f) (qvu Y X.heap.size r _ J);have BZ:=Hd (BY.setCell (p:=⟨X.heap.size,r,ε⟩) C.size (σ Ξ (o.f%256)));have TS:=Hd (qvz i r o.f);generalize turned i r o.f=tu at D TS;clear V hrl he J;go_wp2;go_ret;exact⟨_,lc,.inr (by rw[TS.out];exact KP.o),BZ.out⟩
    .have D:=qws (w:=Y) J;have kS:ν ((0:fo)<=o.e)=θ\/ν ((0:fo)<=o.e)=η/\ν (o.e<i.size)=θ:=by by_cases h0:0<=o.e;{exact .inr ⟨xdt h0,xdf (by omega)⟩};exact .inl (xdf h0)
     clear he;rcases kS with R|⟨R,h2⟩;all_goals
      go_wp2;go_ret;exact⟨i,lc,.inr KP.o,BY⟩
 .have gX:o.u.toList.isEmpty=θ:=Jr (by omega);clear h z I M E gQ L hu;unfold OpV.cells at*;go_enter func62,ntmps62;go_wp2;go_ret;exact⟨o.u,lc,.inl lc,(qy _ _).alloc (jg _) _⟩
theorem byt (h:SwW n0 w W n m cs ob pb k o c) (hu:u=o.u\/u.size<=64):u.size<=1048576/\u.data.toList.length<=64*(1+o.u.size)/\n+(1+o.u.size)<=m:=by have:=h.st.nm;have:=h.st.m;rcases hu with rfl|hu;{exact⟨by omega,by simp;omega,by omega⟩};exact⟨by omega,by simp;omega,by omega⟩
theorem GH (s:St) (a:fo) (u:Bs):(dlR s a u).2.hosts=s.hosts/\(rsR s a).hosts=s.hosts/\(rpS s a u).hosts=s.hosts:=by
 refine⟨?_,?_,?_⟩
 .unfold dlR;repeat' split
  all_goals rfl
 .unfold rsR;split<;>rfl
 .unfold rpS rpF;repeat' split
  all_goals first|rfl|skip
  unfold akS;split<;>rfl
theorem jb6 (h:SwW n0 w W n m cs ob pb k o c) (d:u=o.u\/u.size<=64):
  ao prog 63 #[ξ (ζ ⟨c.A.cl,0,ε⟩),σ υ o.b,Γ u] w λe w'=>e=ψ (ο #[sv (dlR c.s o.b u.data.toList).1,σ υ (dlE c.s o.b)])/\∃c',pY n0 w w' W n m cs ob pb k o c c':=
 CO h (qy _ _) (λr=>qx2 r h.e.s.hos (λa b x i p t=>by
  have q:=h.e.s.sg a b i p x t;have:=q.kv.len;have:=q.nx;have:=q.id;have:=h.nb
  omega) o.b u (xlt (byt h d).1 (by decide)) h.st.ok.b) ⟨(YO h.e.s _ _ (aX 1 _) (byt h d).2.1).up (byt h d).2.2,(GH ..).1⟩
theorem jae (d:SwW n0 w0 W n m cs ob pb k o c) (h:pY n0 w0 w W n m cs ob pb k o c c') (i:u=o.u\/u.size<=64):
  ao prog 64 #[ξ (ζ ⟨c.B.ml,0,ε⟩),σ υ o.b,Γ u] w λe w'=>e=ψ (ο #[sv (dlR c.t o.b u.data.toList).1,σ υ (dlE c.t o.b)])/\xE n0 w0 w' W n m cs/\SwC w' ob pb o c:=
 Ep d h (qy _ _) (λz=>qx7 z d.e.t.hos (λa b x p r C=>by
  have q:=d.e.t.sg a b p r x C;have:=q.kv.len;have:=q.nx;have:=d.nb
  exact⟨by omega,by omega,q.kv.ris⟩) o.b u (byt d i).1 d.st.ok.b) ⟨(YO d.e.t _ _ (aX 1 _) (byt d i).2.1).up (byt d i).2.2,(GH ..).1⟩
theorem jca (h:SwW n0 w W n m cs ob pb k o c) (d:Below w.heap.size w w1):
  ao prog 49 #[ξ (ζ ⟨c.A.cl,0,ε⟩),σ υ o.b] w1 λe w'=>e=ψ (σ υ (rsE c.s o.b))/\∃c',pY n0 w w' W n m cs ob pb k o c c':=
 CO h d (λi=>qx4 i h.e.s.hos o.b h.st.ok.b) ⟨(YK h.e.s _).up h.nb.2,(GH _ _ []).2.1⟩
theorem jan (d:SwW n0 w0 W n m cs ob pb k o c) (h:pY n0 w0 w W n m cs ob pb k o c c') (i:Below w.heap.size w w1):
  ao prog 67 #[ξ (ζ ⟨c.B.ml,0,ε⟩),σ υ o.b] w1 λe w'=>e=ψ (σ υ (rsE c.t o.b))/\xE n0 w0 w' W n m cs/\SwC w' ob pb o c:=
 Ep d h i (λp=>qya p d.e.t.hos o.b d.st.ok.b) ⟨(YK d.e.t _).up d.nb.2,(GH _ _ []).2.1⟩
theorem Ph.Ok3.rp {s:St} (h:Ok3 n s) (t:n<=262144):F6 s:=by have:=h.id;have:=h.ep;exact⟨h.hos,h.ris,h.len t,λi d p z=>xlt (h.key i d p z) (by decide),by omega,by omega,λi d m r=>⟨h.lim t i d m r,(h.mv i d m r).to,by have:=(h.mv i d m r).fr;omega,(h.mv i d m r).ak⟩⟩
theorem jb9 (h:SwW n0 w W n m cs ob pb k o c) (d:Below w.heap.size w w1) (p:u=o.u\/u.size<=64):
  ao prog 65 #[ξ (ζ ⟨c.A.cl,0,ε⟩),σ υ o.b,Γ u] w1 λe w'=>e=ψ (σ υ (rpE c.s o.b))/\∃c',pY n0 w w' W n m cs ob pb k o c c':=
 CO h d (λi=>q7z i (h.e.s.rp h.nb.1) o.b u (xlt (byt h p).1 (by decide))) ⟨(YL h.e.s _ _).up h.nb.2,(GH _ _ _).2.2⟩
theorem jam (d:SwW n0 w0 W n m cs ob pb k o c) (h:pY n0 w0 w W n m cs ob pb k o c c') (i:Below w.heap.size w w1) (r:u=o.u\/u.size<=64):
  ao prog 66 #[ξ (ζ ⟨c.B.ml,0,ε⟩),σ υ o.b,Γ u] w1 λe w'=>e=ψ (σ υ (rpE c.s o.b))/\xE n0 w0 w' W n m cs/\SwC w' ob pb o c:=by
 have e:rpE c.s o.b=rpE c.t o.b:=by unfold rpE;rw[d.e.h]
 rw[e];exact Ep d h i (λp=>q5a p (d.e.t.rp d.nb.1) o.b u (byt d r).1) ⟨(YL d.e.t _ _).up d.nb.2,(GH _ _ _).2.2⟩
theorem q8p (h:SwW n0 w W n m cs ob pb k o c) (M:o.k=12):
  ao prog 37 #[ξ (ζ ⟨W,0,ε⟩),Θ #[ξ (ζ ⟨c.A.cl,0,ε⟩),ξ (ζ ⟨c.B.ml,0,ε⟩)],.agg o.cells] w λe w'=>(∃b,e=ψ (χ b)/\(o.k=1\/o.k=11->b=η))/\jv n0 w W m cs w':=by
 obtain⟨p,z⟩:=h.sent;unfold Cv at p z;have r:=Hd p;have C:=Hd z;obtain⟨D,E,H,_⟩:=p.cells;clear h p z;generalize rsE c.s o.b=O at*;unfold OpV.cells at*;rw[M]at*;go_enter func37,ntmps37;go_wp2;obtain⟨X,L⟩:∃X,(w.alloc (ω #[ξ (ζ ⟨c.A.cl,0,ε⟩),ξ (ζ ⟨c.B.ml,0,ε⟩)] 56)).alloc (ω #[σ υ 12,σ υ o.a,σ υ o.b,σ υ o.c,σ υ o.d,σ υ o.e,σ υ o.f,Γ o.s,Γ o.t,Γ o.u] 30)=X:=⟨_,lc⟩
 rw[L]at r C D E H|-;clear L;go_region_held3 (λw'=>w'.cell? ⟨w.heap.size,0,ε⟩=ζ (ξ (ζ ⟨c.A.cl,0,ε⟩))/\w'.cell? ⟨w.heap.size,1,ε⟩=ζ (ξ (ζ ⟨c.B.ml,0,ε⟩))/\w'.cell? ⟨w.heap.size+1,2,ε⟩=ζ (σ υ o.b))
  (first|exact⟨D,E,H⟩|exact⟨H1.cells.1,H1.cells.2.1,H1.cells.2.2.1⟩|exact⟨i.2.1,i.2.2.1,i.2.2.2.1⟩)
  (first
   |(go_at_call 49;refine(jca r.o (by first|exact qy _ _|exact(qy _ _).drew)).mono ?_;rintro e w1 ⟨rfl,c',I⟩;have H1:=Hd I;clear I)
   |(go_at_call 67;refine(jan r.o H1.o (by first|exact qy _ _|exact(qy _ _).drew)).mono ?_;rintro e w2 ⟨rfl,J⟩;have i:=Hd J;clear J))
 all_goals
  go_wp2;go_ret;exact⟨⟨_,lc,λh=>by omega⟩,i.1.post.pre (il C.o)⟩
theorem q8o (h:SwW n0 w W n m cs ob pb k o c) (U:o.k=11):
  ao prog 37 #[ξ (ζ ⟨W,0,ε⟩),Θ #[ξ (ζ ⟨c.A.cl,0,ε⟩),ξ (ζ ⟨c.B.ml,0,ε⟩)],.agg o.cells] w λe w'=>(∃b,e=ψ (χ b)/\(o.k=1\/o.k=11->b=η))/\jv n0 w W m cs w':=by
 obtain⟨r,t⟩:=h.sent;have E:=Hd (Wt r.st.law (by have:=h.nb;omega) ⟨h.st.ok.d,h.st.ok.e,h.st.ok.f⟩);unfold Cv at r t E;have O:=Hd r;have M:=Hd t;clear h r t;generalize L:rpE c.s o.b=V at*;have i:=Hd L;clear L;unfold OpV.cells at*;rw[U]at*;go_enter func37,ntmps37;go_wp2_with (go_at_call 62;refine E.mono ?_;rintro e w1 ⟨u,rfl,J,z⟩;have D:=Hd J;have C:=Hd (O.below z);have T:=Hd z;obtain⟨P,R,S,_⟩:=C.cells;clear J z)
 go_region_held3 (λw'=>w'.cell? ⟨w.heap.size,0,ε⟩=ζ (ξ (ζ ⟨c.A.cl,0,ε⟩))/\w'.cell? ⟨w.heap.size,1,ε⟩=ζ (ξ (ζ ⟨c.B.ml,0,ε⟩))/\w'.cell? ⟨w.heap.size+1,2,ε⟩=ζ (σ υ o.b))
  (first|exact⟨P,R,S⟩|exact⟨H1.cells.1,H1.cells.2.1,H1.cells.2.2.1⟩|exact⟨p.2.1,p.2.2.1,p.2.2.2.1⟩)
  (first
   |(go_at_call 65;refine(jb9 C.o (by first|exact qy _ _|exact(qy _ _).drew) D.o).mono ?_;rw[i.o];rintro e w2 ⟨rfl,c',H⟩;have H1:=Hd H;clear H)
   |(go_at_call 66;refine(jam C.o H1.o (by first|exact qy _ _|exact(qy _ _).drew) D.o).mono ?_;rw[i.o];rintro e X ⟨rfl,I⟩;have p:=Hd I;clear I))
 all_goals
  go_wp2;go_ret;exact⟨⟨_,lc,λ_=>by simp⟩,p.1.post.pre ((il M.o).trans (il T.o))⟩
theorem jah {s:St} (h:fo) (u:Bs):(dlR s h u).1.length<=64:=by
 have key:∀(f:Fr) (k:gF),f.Ok->(kK f k).length<=64:=λf k d=>Pk _ _ _ _ (xzl _) (by have:=d.id;omega) (by have:=d.n;omega);unfold dlR;repeat' split
 all_goals first|exact xzl _|skip
 rename_i f d _;have:=λk=>key f k (MO d).2;unfold dlF;repeat' split
 all_goals first|exact xzl _|exact this _
theorem q8n (h:SwW n0 w W n m cs ob pb k o c) (nZ:o.k=10):
  ao prog 37 #[ξ (ζ ⟨W,0,ε⟩),Θ #[ξ (ζ ⟨c.A.cl,0,ε⟩),ξ (ζ ⟨c.B.ml,0,ε⟩)],.agg o.cells] w λe w'=>(∃b,e=ψ (χ b)/\(o.k=1\/o.k=11->b=η))/\jv n0 w W m cs w':=by
 obtain⟨I,S⟩:=h.sent;have KF:=Hd (Wt I.st.law (by have:=h.nb;omega) ⟨h.st.ok.d,h.st.ok.e,h.st.ok.f⟩);unfold Cv at I S KF;have L:=Hd I;have X:=Hd S;obtain⟨H,oZ⟩:∃H,dlE c.s o.b=H:=⟨_,lc⟩
 obtain⟨gf,p⟩:∃H,dlE c.t o.b=H:=⟨_,lc⟩
 have HE:=Hd (ac oZ p);obtain⟨si,l1,l2,l3,l4⟩:=PL;have D:=Hd (ac l1 (ac l2 (ac l3 l4)));clear h I S oZ p l1 l2 l3 l4;unfold OpV.cells at*;rw[nZ]at*;go_enter func37,ntmps37;go_wp2_with (first
  |(go_at_call 62;refine KF.mono ?_;rintro e w1 ⟨u,rfl,C,T⟩;have Y:=Hd C;have U:=Hd (L.below T);have ig:=Hd T;obtain⟨gs,r⟩:=qc (dlR c.s o.b u.data.toList).1;obtain⟨gt,z⟩:=qc (dlR c.t o.b u.data.toList).1;have J:=Hd (ac (qx r) (qx z));obtain⟨a1,a2,a3,_⟩:=U.cells;clear C T r z)
  |(go_at_call 63;refine(jb6 U.o Y.o).mono ?_;rintro e w2 ⟨rfl,c',P⟩;rw[J.1,HE.1];have H2:=Hd P;obtain⟨a1,a2,a3,_⟩:=P.cells;clear P)
  |(go_at_call 64;refine(jae U.o H2.o Y.o).mono ?_;rintro e w3 ⟨rfl,R,_⟩;rw[J.2,HE.2];have HP:=Hd R.post;obtain⟨bv,bs,d1,d2,d3,E,d5,M⟩:=R.bs;obtain⟨sa,cp,hv⟩:=ug E;rw[hv]at d1 E M;have i:=Hd (ac d3 (ac E (ac d5 M)));clear R d3 E d5 M hv)
  |(at_builtin;(refine wpList_append_own_at _ lc (.tmp 86) (.tmp 88) 33 lc n0 9 si _ 1 16 underlying33 D.1 D.2.1 D.2.2.1 D.2.2.2 lc (by decide) (.slice sa bs.length cp) bs.length (bs.map sv) lc (i.2.1.alloc _) ⟨w3.heap.size,0,ε⟩ 1 1 [Γ gt] lc lc (cell1 w3 _ _) (by intro u C;simp at C;subst C;rfl) (by have:=i.1;have:=L.nb;unfold bj;omega) (by have:=i.1;have:=L.nb;omega) (by have:=i.2.2.1;simp;omega) ?_;intro v4 w4 O mE _ JE;have V:=Hd (i.2.2.2 (dlR c.t o.b u.data.toList).1 w4 v4 _ mE JE (by rw[J.2];exact O) (jah _ _));obtain⟨sa4,cp4,Sn⟩:=ug O;subst Sn;obtain⟨f3,f4,_⟩:=V.o;clear O mE JE)))
 all_goals
  go_ret;first
   |exact⟨⟨_,lc,λh=>by omega⟩,V.2.2.pre ((il X.o).trans (il ig.o))⟩
   |exact⟨⟨_,lc,λh=>by omega⟩,HP.pre ((il X.o).trans (il ig.o))⟩
end
namespace Ph
open Go.Conc Go.ConcN Go.RowKit Go.Maps Go.Conc.Lib Go Sim
section ok
theorem jmx:codeOk XG.P XG.P fb η tO=η:=by kernel_rfl
theorem Ra:codeOk XG.P XG.P fb η tN=η:=by kernel_rfl
theorem jeq:codeOk XG.P XG.P fb η tEm=η:=by kernel_rfl
theorem jmy:codeOk XG.P XG.P fb η tP=η:=by kernel_rfl
theorem jmw:codeOk XG.P XG.P fb η tMv=η:=by kernel_rfl
theorem jmu:codeOk XG.P XG.P fb η tAb=η:=by kernel_rfl
theorem jmv:codeOk XG.P XG.P fb η tLk=η:=by kernel_rfl
theorem jgz:codeOk XG.P XG.P fb η NK=η:=by kernel_rfl
theorem jgx:codeOk XG.P XG.P fb η NQ=η:=by kernel_rfl
theorem jgy:codeOk XG.P XG.P fb η NP=η:=by kernel_rfl
theorem jbz:codeOk XG.P XG.P fb η (tl1 Cu)=η:=by kernel_rfl
theorem IB:codeOk XG.P XG.P fb η (tl1 tM)=η:=by kernel_rfl
end ok
section
variable {N:Blocks} {kv:gJ al} {ks fw:gJ Frame} {Z:Frame->ah->Prop} {K:gJ Item} {x:gF->al} {w0 w w1 w2:ah} {n0 W n m ob pb k:gF} {cs:gJ Cst} {c:Cst} {o:OpV}
theorem nQ (h:SwW n0 w W n m cs ob pb k o c) (s:Same w w1):SwW n0 w1 W n m cs ob pb k o c:=h.idle (But.same' s)
theorem Ba (h:oH n0 w W n m cs ob o) (s:Same w w1):oH n0 w1 W n m cs ob o:=h.idle (But.same' s)
theorem Lx {F:FuncId->Prop} {ρ:Rel} (h:vw F ρ (SS x).toList (SS x).toList) {j:gF} (d:j<224) {v:al} (e:x j=v):VR F ρ v v:=by have:=vw.Eh h j;rwa [show(SS x).getD j bO=v from(Gn x d).trans e]at this
theorem jco (Y:FrX W ob pb o.k x) (h:SwW n0 w W n m cs ob pb k o c) (hk:o.k=5) (hN:∀b,N b->b<w.heap.size) (uN:But (λb=>n0<=b) w0 w):
  qg N kv ks (bT.at ⟨SS x,[]⟩ (.code Cu::K)) w ks (Ret fT (NA o.k n0 w0 W m cs)):=by
 rw[q81];refine qg.seq (qg.region ?_);change qg N kv ks (bT.at ⟨SS x,[]⟩ (π R24 [0,1,2,3,4,5,6,7,8,9,10,11,12,13]::_)) w ks _;obtain⟨x,rfl⟩:=Y.lay;refine qg.puS [(0,146,ξ (ζ ⟨pb,0,ε⟩))] lc (λwc=>by kernel_rfl) λwa i=>?_;refine qg.ldS lc lc (by kernel_rfl) lc lc jgp (by decide) lc (λwc s=>(nQ h (i.trans s)).cells.1) λwb C=>?_;refine qg.puS [(2,148,ξ (ζ ⟨ob,7,ε⟩))] lc (λwc=>by kernel_rfl) λwd D=>?_;refine qg.ldS lc lc (by kernel_rfl) lc lc IE (by decide) lc (λwc s=>(nQ h (((i.trans C).trans D).trans s)).cells.2.2.2.1) λwe M=>?_;refine qg.puS [(4,150,ξ (ζ ⟨ob,8,ε⟩))] lc (λwc=>by kernel_rfl) λwf sf=>?_;refine qg.ldS lc lc (by kernel_rfl) lc lc IE (by decide) lc (λwc s=>(nQ h (((((i.trans C).trans D).trans M).trans sf).trans s)).cells.2.2.2.2.1) λwg sg=>?_;refine qg.puS [(6,152,ξ (ζ ⟨ob,2,ε⟩))] lc (λwc=>by kernel_rfl) λwh sh=>?_;refine qg.ldS lc lc (by kernel_rfl) lc lc LF (by decide) lc (λwc s=>(nQ h (((((((i.trans C).trans D).trans M).trans sf).trans sg).trans sh).trans s)).cells.2.2.1) λS si=>?_;have s:Same w S:=((((((i.trans C).trans D).trans M).trans sf).trans sg).trans sh).trans si;have z:=nQ h s;have qJ:∀b,N b->b<S.heap.size:=λb hb=>by rw[s.heap];exact hN b hb
 clear i C D M sf sg sh si;generalize d:upd (upx _ _) 153 _=y;have T:FrX W ob pb o.k y:=by subst d;exact⟨lc,lc,lc,lc⟩
 have y1:y 147=ξ (ζ ⟨c.A.cl,0,ε⟩):=by subst d;rfl
 have y2:y 149=Γ o.s:=by subst d;rfl
 have y3:y 151=Γ o.t:=by subst d;rfl
 have y4:y 153=σ υ o.b:=by subst d;rfl
 clear d Y;refine qg.call (o:=R24.getD 8 ⟨ε,.alloc 0,0, "",#[],ε⟩) lc lc (by decide) (jf1 y1 y2 y3 y4) func27 (λρ hf _ _=>?_) (q8k z qJ) ?_;{have I:=(hf lc).tmps;exact .cons (Lx I (by decide) y1) (.cons (Lx I (by decide) y2) (.cons (Lx I (by decide) y3) (.cons (Lx I (by decide) y4) .nil)))};rintro _ E ⟨L,H,l,rfl,X,hl,J,UH⟩;have U:SwW n0 E W n m cs ob pb k o c:=z.idle J;have jS:Low E W cs S.heap.size:=z.st.law.low.idle z.st.law J;have jA:=z.st.law.Cz;have P:But (λb=>n0<=b) w0 E:=(uN.trans (But.same' s)).trans (J.mono λ_=>False.elim);change qg N kv ks (bT.at ⟨(SS y).setIfInBounds 154 (ο #[L,σ υ H]),[]⟩ (π R24 [9,10,11,12,13]::_)) E ks _;rw[jfc];refine qg.puS [(9,145,ο #[L,σ υ H]),(10,155,L),(11,156,σ υ H),(12,14,L),(13,15,σ υ H)] lc (λwc=>by kernel_rfl) λwf R=>?_;refine qg.regionEnd ?_;refine qg.tV (n0:=n0) (w0:=w0) (W:=W) (m:=m) (cs:=cs) jbz (P.trans (But.same' R)) λwc s3=>?_;have V:=nQ U (R.trans s3);have O:But (λ_=>gI) E wc:=But.same' (R.trans s3);obtain⟨r,fr,hd⟩:=UH wc V;exact q82 T.w T.o T.p lc lc V hk (qi X λg hg=>O.keep g (X.lt g hg).2 id) (by omega) jA (xlt J.size O.size) (jS.idle U.st.law O) hd
theorem q2y (d:FrX W ob pb o.k x) (h:SwW n0 w W n m cs ob pb k o c) (H:∀b,N b->b<w.heap.size) (J:But (λb=>n0<=b) w0 w):
  qg N kv ks (bT.at ⟨SS x,[]⟩ (.code tK2::.inBlock 0::.code (tl1 tM)::K)) w ks (Ret fT (NA o.k n0 w0 W m cs)):=by
 have pre:∀{w'},Same w w'->But (λb=>n0<=b) w0 w':=λs=>J.trans (But.same' s);rw[jh6];refine qg.sw (a:=86) d (λy wc=>by kernel_rfl) lc (by decide) (λe x w' d i=>qg.tV jgz (pre i) λwc s=>jdd d.o d.p (nQ h (i.trans s)) e) λL x w1 d i=>?_;rw[jh7];refine qg.sw (a:=104) d (λy wc=>by kernel_rfl) lc (by decide) (λe x w' d t=>qg.tV jgx (pre (i.trans t)) λwc s=>jc6 d.o d.p (nQ h ((i.trans t).trans s)) e) λM x w2 d t=>?_;replace t:=i.trans t;rw[jh8];refine qg.sw (a:=118) d (λy wc=>by kernel_rfl) lc (by decide) (λe x w' d i=>qg.tV jgy (pre (t.trans i)) λwc s=>jda d.o d.p (nQ h ((t.trans i).trans s)) e) λO x U d z=>?_;replace z:=t.trans z;rw[jh9];refine qg.sw (a:=144) d (λy wc=>by kernel_rfl) lc (by decide) (λe x w' d i=>jco d (nQ h (z.trans i)) e (λb I=>by rw[(z.trans i).heap];exact H b I) (pre (z.trans i))) λP x V d C=>?_;replace C:=z.trans C;rw[jia];refine qg.sw (a:=182) d (λy wc=>by kernel_rfl) lc (by decide) (λe x w' d i=>qg.tV jmw (pre (C.trans i)) λwc s=>jif d.o d.p (nQ h ((C.trans i).trans s)) e) λR x X d D=>?_;replace D:=C.trans D;rw[jic];refine qg.sw (a:=199) d (λy wc=>by kernel_rfl) lc (by decide) (λe x w' d i=>qg.tV jmu (pre (D.trans i)) λwc s=>jh3 d.o d.p (nQ h ((D.trans i).trans s)) e) λS x Y d E=>?_;replace E:=D.trans E;rw[jid];refine qg.sw (a:=212) d (λy wc=>by kernel_rfl) lc (by decide) (λe x w' d i=>qg.tV jmv (pre (E.trans i)) λwc s=>jie d.p (nQ h ((E.trans i).trans s)) e) λT x w7 d r=>?_;replace r:=E.trans r;refine qg.skip (qg.inBlock ?_);by_cases k9:o.k=9;{exact qg.tV IB (pre r) λwc s=>ML d (nQ h (r.trans s)) (jcr (nQ h (r.trans s)) k9)};by_cases nX:o.k=10;{exact qg.tV IB (pre r) λwc s=>ML d (nQ h (r.trans s)) (q8n (nQ h (r.trans s)) nX)};by_cases xQ:o.k=11;{exact qg.tV IB (pre r) λwc s=>ML d (nQ h (r.trans s)) (q8o (nQ h (r.trans s)) xQ)};by_cases xP:o.k=12;{exact qg.tV IB (pre r) λwc s=>ML d (nQ h (r.trans s)) (q8p (nQ h (r.trans s)) xP)};exact qg.tV IB (pre r) λwc s=>jc8 d (nQ h (r.trans s)) k9 nX xQ xP
theorem jgj {p q:al}:#[p,q]++Array.replicate 222 bO=SS (λi=>if i=0 then p else if i=1 then q else bO):=by
 rw[<-VZ (t:=#[p,q]++Array.replicate 222 bO) (by simp)];refine gU SS (funext λi=>?_);rw[Array.getD_eq_getD_getElem?,Array.getElem?_append];by_cases h0:i=0;{subst h0;simp}
 .by_cases h1:i=1;{subst h1;simp}
  .have d:¬i<#[p,q].size:=by simp;omega
   rw[dw d,dw h0,dw h1];rw[Array.getElem?_replicate];split<;>rfl
theorem qw6 {p q:al}:Frame.enter XG.P fT #[p,q] .normal=bT.at ⟨SS (λi=>if i=0 then p else if i=1 then q else bO),[]⟩ [.code tB]:=by show Frame.enter prog fT _ .normal=_;rw[enter_at _ func15 (show Tryz.f15.body=ζ tB from lc)];have d:Tryz.f15.ntmps=224:=rfl;rw[d];rw[<-jgj];rfl
theorem jhu (h:zy n0 w W n cs) (he:∀c∈cs,Even n c) (r:OpV.Ok o) (Oj:n+1+o.u.size<=m) (hm:m<=262144) (hl:cs.length<=4398046511103) (hN:∀b,N b->b<w.heap.size):
  AP N kv fT #[ξ (ζ ⟨W,0,ε⟩),.agg o.cells] w (NA o.k n0 w W m cs):=λks=>by
 rw[qw6,jnl];generalize H:(λi=>if i=0 then(ξ (ζ ⟨W,0,ε⟩):al)else if i=1 then .agg o.cells else bO)=x;have x0:x 0=ξ (ζ ⟨W,0,ε⟩):=by subst H;rfl
 have x1:x 1=.agg o.cells:=by subst H;rfl
 clear H;refine qg.seq ?_;refine qg.jn (R:=λx w'=>x 0=ξ (ζ ⟨W,0,ε⟩)/\x 3=ξ (ζ ⟨w.heap.size,0,ε⟩)/\oH n0 w' W n m cs w.heap.size o/\But (λ_=>gI) w w') jmx (λ_ w1 wc s h=>⟨h.1,h.2.1,Ba h.2.2.1 s,h.2.2.2.trans (But.same' s)⟩) (λwc s=>jns x1 ⟨_,lc,x0,?_,⟨?_,he,?_,λc D r=>by have:=((h.each c D).lo _ r).2;omega,Oj,hm,r⟩,?_⟩) ?_;{show Value.pointer (ζ ⟨wc.heap.size,0,ε⟩)=_;rw[s.heap]};{have d:Below w.heap.size wc (wc.alloc (.cells o.cells 30)):=(qy _ _).alloc (by rw[s.heap];exact jg _) _;exact(h.idle (But.same' s)).below (by rw[s.heap];exact d)};{have:=au wc (.cells o.cells 30);rw[s.heap]at this;exact this};{have d:Below wc.heap.size wc (wc.alloc (.cells o.cells 30)):=(qy _ _).alloc (jg _) _;exact(But.same' s).trans (il d)};rintro xa wa ⟨U,z,C,ba⟩;have J:But (λb=>n0<=b) w wa:=ba.mono λ_=>False.elim;refine qg.seq ?_;by_cases k1:o.k=1
 .by_cases d:2<=o.b/\o.b<=4
  .obtain⟨q,hq⟩:∃q:gF,o.b=q:=⟨o.b.toNat,by omega⟩
   exact qg.tV Ra J λwc s=>jig U z (Ba C s) k1 hq (by omega) (by omega) hl
  .exact qg.tV Ra J λwc s=>jnq z (Ba C s) k1 (by omega)
 refine qg.jn (R:=λx w'=>x 0=ξ (ζ ⟨W,0,ε⟩)/\x 3=ξ (ζ ⟨w.heap.size,0,ε⟩)/\Same wa w') Ra (λ_ w1 wc s h=>⟨h.1,h.2.1,h.2.2.trans s⟩) (λwc s=>q80 z (Ba C s) k1 ⟨_,lc,U,z,s⟩) ?_;rintro xb wb ⟨V,b3,sb⟩;have d:=Ba C sb;have T:But (λb=>n0<=b) w wb:=J.trans (But.same' sb);refine qg.seq ?_;by_cases D:cs=[];{exact qg.tV jeq T λwc s=>jc7 V (Ba d s) D};have jR:0<cs.length:=List.length_pos_iff.2 D;refine qg.jn (R:=λx w'=>x 0=ξ (ζ ⟨W,0,ε⟩)/\x 3=ξ (ζ ⟨w.heap.size,0,ε⟩)/\Same wb w') jeq (λ_ w1 wc s h=>⟨h.1,h.2.1,h.2.2.trans s⟩) (λwc s=>Code.wp_mono (λe a w1 q=>Jn.mono (λx w2 ⟨M,O,P⟩=>⟨M,O,P▸s⟩) q) (q8y V b3 (Ba d s) jR)) ?_;rintro xc p ⟨c0,c3,sc⟩;have I:=Ba d sc;have L:But (λb=>n0<=b) w p:=T.trans (But.same' sc);refine qg.seq ?_;obtain⟨c,E⟩:∃c,cs[yA o.a cs.length]?=ζ c:=⟨_,ay (Wl jR)⟩
 refine qg.jn (R:=λx w'=>x 0=ξ (ζ ⟨W,0,ε⟩)/\x 3=ξ (ζ ⟨w.heap.size,0,ε⟩)/\x 9=ξ (ζ ⟨p.heap.size,0,ε⟩)/\Ei w' p.heap.size c/\But (λ_=>gI) p w') jmy (λ_ w1 w2 s h=>⟨h.1,h.2.1,h.2.2.1,(by unfold Ei;rw[s.heap];exact h.2.2.2.1),h.2.2.2.2.trans (But.same' s)⟩) (λwc s=>Code.wp_mono (λe a w1 q=>Jn.mono (λx w2 ⟨M,O,P,q4,q5⟩=>⟨M,O,by rw[P,s.heap],by rw[<-s.heap];exact q4,(But.same' s).trans (il q5)⟩) q) (jnu c0 c3 (Ba I s) E (by omega))) ?_;rintro xd S ⟨d0,d3,d9,hp,X⟩;have Y:SwW n0 S W n m cs w.heap.size p.heap.size (yA o.a cs.length) o c:=⟨I.idle X,hp,E,λr=>by have:=((I.law.each c (aq E)).lo _ r).2;omega⟩
 have pd:But (λb=>n0<=b) w S:=L.trans (X.mono λ_=>False.elim);refine qg.seq (qg.seq ?_);rw[jdf];refine qg.region ?_;change qg N kv ks (bT.at ⟨SS xd,[]⟩ (π (rg NJ) [0,1]::_)) S ks _;obtain⟨x,rfl⟩:=ql d0;obtain⟨x,rfl⟩:=ql (x:=x) (j:=3) (v:=ξ (ζ ⟨w.heap.size,0,ε⟩)) d3;obtain⟨x,rfl⟩:=ql (x:=x) (j:=9) (v:=ξ (ζ ⟨p.heap.size,0,ε⟩)) d9;refine qg.puS [(0,83,ξ (ζ ⟨w.heap.size,0,ε⟩))] lc (λwc=>by kernel_rfl) λwf sf=>?_;refine qg.ldS (v:=σ υ o.k) lc lc (by kernel_rfl) lc lc LF (by decide) lc (λwc s=>by simp[aa,(nQ Y (sf.trans s)).st.op,OpV.cells]) λwe t=>?_;replace t:=sf.trans t;refine qg.regionEnd (qg.block ?_);refine q2y (W:=W) (ob:=w.heap.size) (pb:=p.heap.size) ⟨lc,lc,lc,lc⟩ (nQ Y t) (λb d=>?_) (pd.trans (But.same' t));have:=(pd.trans (But.same' t)).size;have:=hN b d;omega
end
def StA (os:gF->OpV) (n0:gF) (w0:ah) (k:gF) (w:ah):Prop:= ∃n cs,zy n0 w n0 n cs/\(∀c∈cs,Even n c)/\(n<=k+szT os k/\n<=262144)/\cs.length<=k/\But (λb=>n0<=b) w0 w
theorem q17 (w:ah):zy w.heap.size (Gc w) w.heap.size 0 []:=by have d:=au w (ω #[Δ ε 0 0,Δ ε 0 0,Δ ε 0 0,χ θ] 36);exact⟨jg _,⟨⟨Δ ε 0 0,Δ ε 0 0,λb=>∃c∈([]:gJ Cst),c.own b⟩,Δ ε 0 0,0,[],⟨⟨⟨_,d,lc,lc,lc,lc⟩,⟨[],aj _ _ _ _⟩,λk l p=>(by cases p),λg ⟨l,r,_⟩=>(by cases r)⟩,aj _ _ _ _,aj _ _ _ _,⟨jg _,jg _,λb d=>by cases d⟩,lc,λb _ ⟨c,i,_⟩=>(by cases i)⟩⟩,λc i=>(by cases i),.nil⟩
theorem qxv (w:ah):But (λb=>w.heap.size<=b) w (Gc w):=il ((qy _ _).alloc (jg _) _)
theorem StA.new (i:gF->OpV) (w:ah):StA i w.heap.size w 0 (Gc w):=⟨0,[],q17 w,λc d=>(by cases d),⟨jg _,xzl _⟩,jg _,qxv w⟩
theorem jg3 {L:gF} {d:gF->OpV} (I:∀i,i<L->OpV.Ok (d i)) (hL:L+szT d L<=262144):F7 w0.heap.size L d w0.heap.size w0 (StA d w0.heap.size w0):={
 idle:=λk w w' ⟨n,cs,p,C,D,E,r⟩ z=>⟨n,cs,p.idle z,C,D,E,r.trans (z.mono λ_=>False.elim)⟩
 keep:=λk w ⟨n,cs,p,C,D,E,r⟩=>r
 lack:=λk w ⟨n,cs,p,_⟩=>by obtain⟨CS,S,m,bs,U⟩:=p.b;obtain⟨cur,M,_,_,_,O⟩:=U.ls.b;simp[aa,M,O]
 step:=λk w N kv H ⟨n,cs,p,C,D,E,r⟩ P=>by
  have fC:szT d (k+1)=szT d k+((d k).s.size+(d k).t.size+(d k).u.size):=lc;have R:=jh1 d (show k+1<=L from H);have:=jhu (N:=N) (kv:=kv) (o:=d k) (m:=n+1+(d k).u.size) p C (I k H) (jg _) (by omega) (by omega) λb z=>xll (P b z) r.size;intro ks;refine(this ks).mono λfr w' ⟨V,v,X,Y,r4,J,r5,r6,r7,r8⟩=>⟨V,v,X,Y,?_,_,J,r5,r6,⟨by omega,by omega⟩,by omega,r.trans r8⟩
  obtain⟨b,z,T⟩:=r4
  exact⟨b,z,λh=>T (.inr h)⟩}
end Ph
end Go.Proofs.YtkpekiajdlolnabGreat
