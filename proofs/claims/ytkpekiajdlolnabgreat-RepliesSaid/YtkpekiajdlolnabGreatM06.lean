/- PROVED: part 6 of the claim's ground. Conditions: those that each theorem names. -/
import Derived.Test.YtkpekiajdlolnabGreatM05
import Derived.Test.YtkpekiajdlolnabGreatM04
import Derived.Deep.RegionLaw
import Derived.Test.YtkpekiajdlolnabGreatM03
import Derived.Maps.AppendAt
import Derived.Deep.RegionHeld3
set_option linter.unusedVariables false
set_option linter.unusedSimpArgs false
set_option maxRecDepth 100000
set_option maxHeartbeats 16000000
open _root_ renaming rfl→lc,ByteArray→bn,Nat→dw,if_neg→eD,Option→fo,Int→gF,if_pos→gI,if_false→gJ,absurd→gU,if_true→gY,False→iO,Bool→jb,List→je,decide_eq_true_eq→jC,Array→kw,Unit→ky
variable{K:Go.Act->Go.World->Prop} {L X kv:Go.Proofs.YtkpekiajdlolnabGreat.KV} {PP:Go.Ending->Go.World->Prop} {a b uT d h i k n n' pb r to:dw} {g:jb} {ld ld':bn} {m m':Go.Proofs.YtkpekiajdlolnabGreat.Mv} {pv u:Go.Value} {t:kw Go.Value} {w w' w0 w1 w2 wA:Go.World}
open Go.Proofs.Tryz
open Go.World renaming cell?→aa,frozen?→ay
open And renaming intro→ac
open Go renaming World→ae,Value→ai,wp_region_still_tail→aw,heap_alloc_old→aD,Calls→aE,wpStill_nil→aL,heap_alloc_new→aO,TypeId→aP,DataW→aQ,bodyPost_ret→aT,undef→aX,maxLen→bF
open Int renaming toNat_natCast→ah,lt_or_le→bj
open Nat renaming reduceEqDiff→aj,le_succ→am,succ_le_succ→aB,le_add_right→aS,zero_add→aV,le_succ_of_le→bp
open List renaming length_append→al,drop_succ_cons→ao,getElem?_eq_some_iff→aq,take_succ_cons→ax,take_zero→aH,drop_zero→aI,length_drop→aR,length_nil→aW,mem_of_getElem?→aY,mem_singleton→bi,length_cons→bA,mem_append→bC
open Option renaming isSome_iff_exists→au,getD→az,map_eq_some_iff→aU
open Bool renaming and_eq_true→aA,and_eq_false_iff→aJ,false_eq_true→bh
open Go.RowKit renaming Below→aC
open Go.Obj renaming cells→aF
open Go.Code renaming wp→aG,region→aK
open Go.ByteArray renaming toList_eq→aM
open Go.Instr renaming lookup→aN
open Bool renaming false→θ,true→η
open Option renaming some→ζ,none→ε
open Go.Value renaming slice→Δ,int→σ,pointer→ξ,string→Γ,bool→χ,tuple→ο,agg→Θ
open Go.IntKind renaming i64→υ,u8→Ξ
open Go.Obj renaming cells→ω
open Decidable renaming decide→ν
open Go.Ending renaming returned→ψ
namespace Go.Proofs.YtkpekiajdlolnabGreat
open Go.RowKit Go.Maps
def bgM (s:St) (n to:dw):Mv:=⟨s.id+1,s.ow n,to,s.kv n,[],[],0,0,0,θ⟩
def bgS (s:St) (n to:dw):St:={s with id:=s.id+1,mv:=qf s.mv n (ζ (bgM s n to))}
def mvE (s:St) (k to:gF):gF:=if k<0\/3<k then 8 else if to<0\/s.hosts<=to then 1 else if(s.mv k.toNat).isSome then 10 else if(s.ow k.toNat:gF)=to then 9 else 0
def mvS (s:St) (k to:gF):St:=if mvE s k to=0 then bgS s k.toNat to.toNat else s
section
variable {w w':ae} {F:dw->Prop} {A:PA} {s:St} {n:dw}
def bgA (A:PA) (n g:dw) (pv:ai):PA:={A with mp:=qf A.mp n (ζ g),pv:=qf A.pv n pv,cv:=qf A.cv n (Δ ε 0 0),ld:=qf A.ld n ⟨#[]⟩}
theorem mM.same {C:PA} {m:fo Mv} (h:mM w F A i m) (z:C.mp i=A.mp i) (y:C.pv i=A.pv i) (j:C.cv i=A.cv i) (D:C.ld i=A.ld i):mM w F C i m:=by
 cases m with
 |none=>exact⟨z.trans h.1,by rw[j];exact h.2⟩
 |some m=>obtain⟨g,E,H,I,J,M,N,O⟩:=h;exact⟨g,z.trans E,H,by rw[y,j,D];exact I,by rw[y];exact J,by rw[j];exact M,by rw[y];exact N,by rw[j];exact O⟩
theorem mM.JB {g:dw} {m:fo Mv} (h:mM w F A i m) (e:A.mp i=ζ g):g<w.heap.size:=by
 cases m with
 |none=>rw[h.1]at e;cases e
 |some m=>obtain⟨z,j,C,y,_⟩:=h;rw[j]at e;cases e;exact(j5 y).1
theorem qn0 (A:PA) (s:St) (n to g:dw) (pv:ai):n<4->((zm A s).setIfInBounds 14 (σ υ ((s.id+1:dw):gF))).setIfInBounds (1+n*3+2) (ξ (ζ ⟨g,0,ε⟩))=zm (bgA A n g pv) (bgS s n to):=by
 intro j;match n,j with
 |0,_|1,_|2,_|3,_=>rfl
theorem zx.begin {g:dw} (h:zx w F A s) (S:n<4) (E:But (· =A.cl) w w') (R:w'.heap[A.cl]?=ζ (.cells (zm (bgA A n g pv) (bgS s n to)) 83 (0,0)))
  (O:w'.heap[g]?=ζ (.cells (qw n pv (Δ ε 0 0) ⟨#[]⟩ (bgM s n to)) 135 (0,0))) (P:w.heap.size<=g) (M:w'.ownsRow w.heap.size 74 2 pv (s.kv n).length (flat (s.kv n))):zx w' (λb=>F b\/w.heap.size<=b) (bgA A n g pv) (bgS s n to):=by
 refine h.turn (bgA A n g pv) (bgS s n to) E R lc lc lc ⟨lc,lc⟩ lc lc (λi H no=>?_) (λ_ h=>.inl h) (λi j q H J z y=>?_) (λi j q H J z y=>?_);{show mM w' _ _ i (qf s.mv n _ i);by_cases e:i=n;{subst e;rw[qj];have D:(bgA A i g pv).pv i=pv:=qj ..;have C:(bgA A i g pv).cv i=Δ ε 0 0:=qj ..;have N:(bgA A i g pv).ld i=⟨#[]⟩:=qj ..;refine⟨g,qj ..,.inr P,by rw[D,C,N];exact O,?_,?_,λb I=>.inr ?_,λb I=>?_⟩;{rw[D];exact jo.of M};{rw[C];exact jo.of (World.ownsRow_nil _ 0 _ _)};{rw[D]at I;exact(M.lt b I).1};rw[C]at I;cases I};rw[qh _ _ e];exact(((h.mv i H).keep (w':=w') (λb c _ E=>no b c _ E (by decide)) (λb c _ E=>no b c _ E (by decide)) (λb c _ E=>no b c _ E (by decide))).mono λ_ h=>.inl h).same (qh _ _ e) (qh _ _ e) (qh _ _ e) (qh _ _ e)};{replace z:qf A.mp n (ζ g) i=ζ q:=z;replace y:qf A.mp n (ζ g) j=ζ q:=y;by_cases D:i=n;{by_cases C:j=n;{omega};subst D;rw[qj]at z;rw[qh _ _ C]at y;cases z;have:=(h.mv j J).JB y;omega};rw[qh _ _ D]at z;by_cases C:j=n;{subst C;rw[qj]at y;cases y;have:=(h.mv i H).JB z;omega};rw[qh _ _ C]at y;exact h.mpi i j q H J z y};replace z:(qf A.cv n (Δ ε 0 0) i).ownBlock=ζ q:=z;replace y:(qf A.cv n (Δ ε 0 0) j).ownBlock=ζ q:=y;by_cases D:i=n;{subst D;rw[qj]at z;cases z};by_cases C:j=n;{subst C;rw[qj]at y;cases y};rw[qh _ _ D]at z;rw[qh _ _ C]at y;exact h.cvi i j q H J z y
theorem qtu (h:zx w F A s) (j:n<4) (e:wA=w.setCell ⟨A.cl,14,ε⟩ (σ υ ((s.id+1:dw):gF))):
  wA.cell? ⟨A.cl,14,ε⟩=ζ (σ υ ((s.id+1:dw):gF))/\wA.cell? ⟨A.cl,1+n*3,ε⟩=ζ (σ υ (s.ow n))/\wA.cell? ⟨A.cl,1+n*3+1,ε⟩=ζ (ξ (ζ ⟨A.db n,0,ε⟩))/\wA.cell? ⟨A.cl,1+n*3+2,ε⟩=ζ (ptr (A.mp n))/\wA.frozen? ⟨A.cl,1+n*3+2,ε⟩=θ/\wA.cell? ⟨A.db n,0,ε⟩=ζ (.map (ζ (A.mb n)))/\zk wA (A.mb n) (s.kv n)/\wA.heap[A.cl]?=ζ (.cells ((zm A s).setIfInBounds 14 (σ υ ((s.id+1:dw):gF))) 83 (0,0))/\wA.heap.size=w.heap.size/\But (· =A.cl) w wA:=by
 have y:=xhs w A.cl 14 _ _ (σ υ ((s.id+1:dw):gF)) h.cl.2;have C:∀b,b≠A.cl->wA.heap[b]?=w.heap[b]?:=λb H=>by rw[e];exact xho w _ b _ H
 have I:A.db n≠A.cl:=λz=>by have:=(h.db n j).2;rw[z,h.cl.2]at this;have D:=xoi this;injection D with _ E;exact gU E (by decide)
 have J:A.mb n≠A.cl:=λz=>kz (h.mb n j).2 h.cl.2 z.symm;rw[<-e]at y;obtain⟨M,N,O⟩:=Jw A s n j;refine⟨by simp[aa,y,zm],?_,?_,?_,by simp[ay,y],by rw[xcb (C _ I)];simp[aa,(h.db n j).2],(h.mb n j).2.block (C _ J),y,by rw[e];simp,by rw[e];exact But.setCell (B:=(· =A.cl)) (But.refl _ _) lc _ _⟩;all_goals
  simp only[aa,y];rw[xne (by omega)]
 .simp[M]
 .simp[N,ptr]
 .simp[O]
theorem q0y {g:dw} {id ow to:gF} (O:n<4) (E:wA.heap[A.cl]?=ζ (.cells ((zm A s).setIfInBounds 14 (σ υ ((s.id+1:dw):gF))) 83 (0,0))) (M:aC wA.heap.size wA w1) (P:wA.heap.size<=g)
  (N:w1.heap[g]?=ζ (ω #[σ υ id,σ υ ow,σ υ to,pv,Δ ε 0 0,σ Ξ 0,σ υ 0,σ υ 0,σ υ 0,Γ ⟨#[]⟩,Γ ⟨#[]⟩,σ υ 0,χ θ] 135 (0,0))) (e:w2=w1.setCell ⟨A.cl,1+n*3+2,ε⟩ (ξ (ζ ⟨g,0,ε⟩))):
  w2.cell? ⟨A.cl,1+n*3+2,ε⟩=ζ (ξ (ζ ⟨g,0,ε⟩))/\w2.cell? ⟨A.cl,14,ε⟩=ζ (σ υ ((s.id+1:dw):gF))/\w2.cell? ⟨g,5,ε⟩=ζ (σ Ξ 0)/\w2.cell? ⟨g,6,ε⟩=ζ (σ υ 0)/\w2.cell? ⟨g,7,ε⟩=ζ (σ υ 0)/\w2.cell? ⟨g,8,ε⟩=ζ (σ υ 0)/\w2.cell? ⟨g,9,ε⟩=ζ (Γ ⟨#[]⟩)/\(∀j,w2.frozen? ⟨g,j,ε⟩=θ)/\
   w2.heap[A.cl]?=ζ (.cells (((zm A s).setIfInBounds 14 (σ υ ((s.id+1:dw):gF))).setIfInBounds (1+n*3+2) (ξ (ζ ⟨g,0,ε⟩))) 83 (0,0))/\w2.heap[g]?=w1.heap[g]?/\g≠A.cl:=by
 have I:=(j5 E).1;have D:g≠A.cl:=by omega
 have J:=(M.block _ I).trans E;have z:=xhs w1 A.cl (1+n*3+2) _ _ (ξ (ζ ⟨g,0,ε⟩)) J;have H:w2.heap[g]?=w1.heap[g]?:=by rw[e];exact xho w1 _ g _ D
 rw[<-e]at z;have y:=H.trans N;have C:(zm A s).size=16:=lc;refine⟨?_,?_,by simp[aa,y],by simp[aa,y],by simp[aa,y],by simp[aa,y],by simp[aa,y],λj=>by simp[ay,y],z,H,D⟩;{simp only[aa,z];rw[xsl (by simp[C];omega)];rfl};simp only[aa,z];rw[xne (by omega),xsl (by simp[C])];rfl
theorem q0x {w3:ae} {g:dw} (h:zx w F A s) (C:n<4) (nJ:But (· =A.cl) w wA) (hz:wA.heap.size=w.heap.size) (j:aC wA.heap.size wA w1) (jA:wA.heap.size<=g)
  (N:w1.heap[g]?=ζ (ω #[σ υ ((s.id+1:dw):gF),σ υ (s.ow n),σ υ to,pv,Δ ε 0 0,σ Ξ 0,σ υ 0,σ υ 0,σ υ 0,Γ ⟨#[]⟩,Γ ⟨#[]⟩,σ υ 0,χ θ] 135 (0,0)))
  (D:w1.ownsRow wA.heap.size 74 2 pv (s.kv n).length (flat (s.kv n))) (e:w2=w1.setCell ⟨A.cl,1+n*3+2,ε⟩ (ξ (ζ ⟨g,0,ε⟩)))
  (Y:w2.heap[A.cl]?=ζ (.cells (((zm A s).setIfInBounds 14 (σ υ ((s.id+1:dw):gF))).setIfInBounds (1+n*3+2) (ξ (ζ ⟨g,0,ε⟩))) 83 (0,0))) (Z:w2.heap[g]?=w1.heap[g]?) (U:g≠A.cl)
  (H:w3=((((w2.setCell ⟨g,5,ε⟩ (σ Ξ 0)).setCell ⟨g,6,ε⟩ (σ υ n)).setCell ⟨g,7,ε⟩ (σ υ ((s.id:gF)+1))).setCell ⟨g,8,ε⟩ (σ υ 0)).setCell ⟨g,9,ε⟩ (Γ ⟨#[]⟩)):
  zx w3 (λb=>F b\/w.heap.size<=b) (bgA A n g pv) (bgS s n to)/\But F w w3:=by
 have k1:=xhs w2 g 5 _ _ (σ Ξ 0) (Z.trans N);have k2:=xhs _ g 6 _ _ (σ υ n) k1;have k3:=xhs _ g 7 _ _ (σ υ ((s.id:gF)+1)) k2;have k4:=xhs _ g 8 _ _ (σ υ 0) k3;have P:=xhs _ g 9 _ _ (Γ ⟨#[]⟩) k4;have M:∀b,b≠g->w3.heap[b]?=w2.heap[b]?:=λb j=>by rw[H,xho _ _ _ _ j,xho _ _ _ _ j,xho _ _ _ _ j,xho _ _ _ _ j,xho _ _ _ _ j]
 rw[<-H]at P;have E:But (λb=>b=A.cl\/w.heap.size<=b) w w3:=by rw[H,e];refine But.setCell (But.setCell (But.setCell (But.setCell (But.setCell (But.setCell ((nJ.mono λb h=>.inl h).trans (il (B:=λb=>b=A.cl\/w.heap.size<=b) j)) (.inl lc) _ _) ?_ _ _) ?_ _ _) ?_ _ _) ?_ _ _) ?_ _ _;all_goals exact .inr (by omega)
 have z:But (· =A.cl) w w3:=⟨E.size,λb j C=>E.keep b j λx=>x.elim C λy=>by omega,E.os,E.output⟩
 have V:w3.ownsRow w.heap.size 74 2 pv (s.kv n).length (flat (s.kv n)):=by
  rw[hz]at D;refine qi D λq O=>?_;have J:q≠g:=λx=>by obtain⟨c,R⟩:=xh D O;rw[x,N]at R;have S:=xoi R;injection S with _ T;exact gU T (by decide)
  have I:q≠A.cl:=λx=>by have:=(D.lt q O).1;have:=h.clt;omega
  rw[M q J,e];exact xho _ _ _ _ I
 refine⟨h.begin C z ?_ (P.trans lc) (by omega) V,z.mono λb e=>e▸h.cl.1⟩;rw[M A.cl λx=>U x.symm,Y,qn0 A s n to g pv C]
end
namespace Ph
open Go.Conc Go.ConcN Go.RowKit Go.Maps Go.Conc.Lib Go Sim
section
variable {w w':ae} {F:dw->Prop} {A:PA} {s:St} {n:dw}
theorem Wn (h:zx w F A s) (M:n<4) (kU:yh (s.kv n)) (hL:(s.kv n).length<=16777216) (kG:∀p∈s.kv n,p.1.length<=bF) (to:dw) (hid:s.id<=4611686018427387904):
  aE prog 58 #[ξ (ζ ⟨A.cl,0,ε⟩),ξ (ζ ⟨A.cl,1+n*3,ε⟩),σ υ n,σ υ to] w (kD w F A (ο #[]) (bgS s n to)):=by
 have E:w.cell? ⟨A.cl,14,ε⟩=ζ (σ υ s.id):=(h.cells 14 _ lc).1;have I:=(h.cells 14 (σ υ s.id) lc).2;have H:=Hd h;have C:=Hd (ac kU (ac hL kG));have UA:((s.id:gF)+1<=9223372036854775807):=by omega
 clear h kU hL kG;go_enter func58,ntmps58;go_wp2;have R:w.setCell ⟨A.cl,14,ε⟩ (σ υ ((s.id:gF)+1))=w.setCell ⟨A.cl,14,ε⟩ (σ υ ((s.id+1:dw):gF)):=lc;obtain⟨S,T,U,V,Y,Z,a7,a8,a9,pU⟩:=qtu H.o M R;have D:=Hd (ac a8 (ac a9 pU));generalize w.setCell ⟨A.cl,14,ε⟩ (σ υ ((s.id:gF)+1))=wA at*;clear R a8 a9 pU E I;change aG _ (aK 1 bg1 η) _ _ _;refine jj6 (cl:=A.cl) (n:=n) (db:=A.db n) (mb:=A.mb n) (id:=s.id+1) (ow:=s.ow n) (to:=to) (L:=s.kv n) lc lc lc lc lc S T U ⟨_,V⟩ Y Z a7 C.1 C.2.1 C.2.2 λy w1 g sa c j N O J hr=>?_;have y0:y 0=ξ (ζ ⟨A.cl,0,ε⟩):=j 0 (yB (by kernel_rfl));have y1:y 1=ξ (ζ ⟨A.cl,1+n*3,ε⟩):=j 1 (yB (by kernel_rfl));have y2:y 2=σ υ n:=j 2 (yB (by kernel_rfl));rw[jl8,y0,y1,y2];obtain⟨w2,z⟩:∃w2,w1.setCell ⟨A.cl,1+n*3+2,ε⟩ (ξ (ζ ⟨g,0,ε⟩))=w2:=⟨_,lc⟩
 rw[z];obtain⟨d1,d2,d5,d6,d7,d8,d9,fr,z1,z2,z3⟩:=q0y M D.1 N O J z.symm;have HE:=Hd (λw3=>q0x (w3:=w3) H.o M D.2.2 D.2.1 N O J hr z.symm z1 z2 z3);clear z1 z2 z3;clear j y0 y1 y2 S T U V Y Z a7 N O J hr z;go_wp2;refine aw 12 (by kernel_rfl) (by kernel_rfl) ?_;change wpStill _ _ w2.drew (λa'=>wpList _ _ _ _ a' w2.drew) _ _;simp only[ax,aH,ao,aI];repeat still_step
 refine aL ?_;go_wp2;go_end0;have P:=Hd (HE.o _ lc);exact⟨lc,bgA A n g _,lc,P.1.below (Below.drew (qy _ _)),P.2.drew⟩
theorem Mf {k to:gF} (hk:k<0\/3<k):mvE s k to=8/\mvS s k to=s:=by
 have h:mvE s k to=8:=by unfold mvE;rw[gI hk]
 exact⟨h,by unfold mvS;rw[h];rfl⟩
theorem MU {k to:gF} (hk:¬(k<0\/3<k)) (j:to<0\/s.hosts<=to):mvE s k to=1/\mvS s k to=s:=by
 have h:mvE s k to=1:=by unfold mvE;rw[eD hk,gI j]
 exact⟨h,by unfold mvS;rw[h];rfl⟩
theorem MB {to:gF} (z:n<4) (y:¬(to<0\/s.hosts<=to)) (j:s.mv n=ζ m):mvE s n to=10/\mvS s n to=s:=by
 have h:mvE s n to=10:=by unfold mvE;rw[eD (by omega),eD y,ah,j];rfl
 exact⟨h,by unfold mvS;rw[h];rfl⟩
theorem Mx {to:gF} (C:n<4) (z:¬(to<0\/s.hosts<=to)) (j:s.mv n=ε) (y:(s.ow n:gF)=to):mvE s n to=9/\mvS s n to=s:=by
 have h:mvE s n to=9:=by unfold mvE;rw[eD (by omega),eD z,ah,j,eD (by decide),gI y]
 exact⟨h,by unfold mvS;rw[h];rfl⟩
theorem LH (y:n<4) (C:to<s.hosts) (j:s.mv n=ε) (z:s.ow n≠to):mvE s n to=0/\mvS s n to=bgS s n to:=by
 have h:mvE s n to=0:=by unfold mvE;rw[eD (by omega),eD (by omega),ah,j,eD (by decide),eD (by omega)]
 exact⟨h,by unfold mvS;rw[h,gI lc];rfl⟩
theorem jb8 (h:zx w F A s) (I:∀i,i<4->yh (s.kv i)) (C:∀i,i<4->(s.kv i).length<=16777216) (E:∀i,i<4->∀p∈s.kv i,p.1.length<=bF) (j:s.id<=4611686018427387904) (k to:gF) (rA: -9223372036854775808<=k/\k<=9223372036854775807) (V: -9223372036854775808<=to/\to<=9223372036854775807):
  aE prog 31 #[ξ (ζ ⟨A.cl,0,ε⟩),σ υ k,σ υ to] w (kD w F A (σ υ (mvE s k to)) (mvS s k to)):=by
 by_cases hk:k<0\/3<k;{rw[(Mf hk).1,(Mf hk).2];have H:=Hd h;clear h I C E j;rcases bj k 0 with h2|h2;{have J:ν (k<0)=η:=xdt h2;go_enter func31,ntmps31;go_wp2;go_ret;exact .idle H.o (qy _ _)};have J:ν (k<0)=θ:=xdf (by omega);have T:ν (4<=k)=η:=xdt (by omega);go_enter func31,ntmps31;go_wp2;go_ret;exact .idle H.o (qy _ _)};have c0:w.cell? ⟨A.cl,0,ε⟩=ζ (σ υ s.hosts):=(h.cells 0 _ lc).1;obtain⟨n,rfl⟩:∃n:dw,k=n:=⟨k.toNat,by omega⟩
 have y:n<4:=by omega
 have Z:((n:gF)<4):=by omega
 have J:ν ((n:gF)<0)=θ:=xdf (by omega);have T:ν ((4:gF)<=n)=θ:=xdf (by omega);by_cases ht:to<0\/s.hosts<=to;{rw[(MU hk ht).1,(MU hk ht).2];have H:=Hd h;clear h I C E j;rcases bj to 0 with h2|h2;{have M:ν (to<0)=η:=xdt h2;go_enter func31,ntmps31;go_wp2;go_ret;exact .idle H.o (qy _ _)};have M:ν (to<0)=θ:=xdf (by omega);have U:ν ((s.hosts:gF)<=to)=η:=xdt (by omega);go_enter func31,ntmps31;go_wp2;go_ret;exact .idle H.o (qy _ _)};obtain⟨to,rfl⟩:∃q:dw,to=q:=⟨to.toNat,by omega⟩
 have M:ν ((to:gF)<0)=θ:=xdf (by omega);have U:ν (s.hosts<=to)=θ:=xdf (by omega);have S:=(h.cells (1+n*3) _ (Jw A s n y).1).1;have z:=(h.part n y).v;have D:=h.mv n y;cases fe:s.mv n with
 |some m=>rw[(MB y ht fe).1,(MB y ht fe).2];rw[fe]at D;obtain⟨x,O,_⟩:=D;rw[O]at z;replace z:w.cell? ⟨A.cl,1+n*3+2,ε⟩=ζ (ξ (ζ ⟨x,0,ε⟩)):=z;have H:=Hd h;clear h I C E j O fe hk ht;go_enter func31,ntmps31;go_wp2;go_ret;exact .idle H.o (qy _ _)
 |none=>
  rw[fe]at D;rw[D.1]at z;replace z:w.cell? ⟨A.cl,1+n*3+2,ε⟩=ζ (.pointer ε):=z;by_cases ho:s.ow n=to;{rw[(Mx y ht fe (by omega)).1,(Mx y ht fe (by omega)).2];have H:=Hd h;rw[ho]at S;clear h I C E j D fe hk ht ho;go_enter func31,ntmps31;go_wp2;go_ret;exact .idle H.o (qy _ _)}
  .have Y:(s.ow n==to)=θ:=by simpa using ho
   have N:=Wn h y (I n y) (C n y) (E n y) to j;rw[(LH y (by omega) fe ho).1,(LH y (by omega) fe ho).2];have R:=Hd N;clear h I C E j D fe hk ht ho N;go_enter func31,ntmps31;go_wp2_with (go_at_call 58;refine R.mono ?_;rintro e w' ⟨rfl,h2⟩;have P:=Hd h2;clear h2)
   go_ret;exact⟨lc,P.o⟩
end
end Ph
open Go.RowKit Go.Maps
def nxM (n:dw) (m:Mv):Mv:={m with kind:=1,sent:=(Ph.frB 1 n m.id 0 ⟨#[]⟩).data.toList}
def nxV (s:St) (k:gF):Bs:=if k<0\/3<k then[]else match s.mv k.toNat with
 |none=>[]
 |some m=>if m.sent.isEmpty then(nxM k.toNat m).sent else m.sent
def nxE (s:St) (k:gF):gF:=if k<0\/3<k then 8 else match s.mv k.toNat with
 |none=>11
 |some _=>0
section
variable {w w':ae} {F:dw->Prop} {A:PA} {s:St} {n x:dw}
theorem jc {a b:kw ai} {t u:aP} {p q:dw×dw} (h:ζ (aF a t p)=ζ (aF b u q)):t=u:=by have e:=xoi h;injection e
theorem zx.mvb (h:zx w F A s) (N:n<4) (V:s.mv n=ζ m) (J:A.mp n=ζ x) (y:But (· =x) w w') (Z:w'.heap[x]?=ζ (.cells (qw n (A.pv n) (A.cv n) ld' m') 135 (0,0))) (U:m'.ps=m.ps) (H:m'.cs=m.cs):
  zx w' F {A with ld:=qf A.ld n ld'} {s with mv:=qf s.mv n (ζ m')}:=by
 have M:=h.mv n N;rw[V]at M;obtain⟨g,P,z2,R,S,T,z6,z7⟩:=M;rw[J]at P;cases P;have lt:∀{b:dw} {o:Obj},w.heap[b]?=ζ o->b<w.heap.size:=λy=>(j5 y).1;have C:∀(b:dw) (c:kw ai) (ty:aP),w.heap[b]?=ζ (aF c ty (0,0))->ty≠135->w'.heap[b]?=w.heap[b]?:=λb c ty j n1=>y.keep b (lt j) λe=>by rw[e,R]at j;exact n1 (jc j).symm
 have O:∀b,(∃E D,w.heap[b]?=ζ (Obj.map E D))->w'.heap[b]?=w.heap[b]?:=λb ⟨E,D,j⟩=>y.keep b (lt j) λe=>by rw[e,R]at j;cases j
 refine⟨⟨h.cl.1,(C _ _ _ h.cl.2 (by decide)).trans h.cl.2⟩,λi z=>⟨(h.db i z).1,(C _ _ _ (h.db i z).2 (by decide)).trans (h.db i z).2⟩,λi z=>⟨(h.mb i z).1,?_⟩,h.mbi,λi z=>?_,h.mpi,h.cvi,h.yc.keep (λb cur ty j Y=>C b cur ty j (by rcases Y with rfl|rfl<;>decide)) (λb j _=>O b j) (λ_ h=>h) lc lc lc,h.smb⟩;{obtain⟨E,D,j,_⟩:=(h.mb i z).2;exact(h.mb i z).2.block (O _ ⟨E,D,j⟩)};show mM w' F _ i (qf s.mv n _ i);by_cases e:i=n;{subst e;rw[qj];refine⟨x,J,z2,?_,?_,?_,z6,z7⟩;{rw[Z];show _=ζ (aF (qw i (A.pv i) (A.cv i) (qf A.ld i ld' i) m') _ _);rw[qj]};{rw[U];exact S.block λb y=>by obtain⟨c,I⟩:=jo.ty S y;exact C b c _ I (by decide)};rw[H];exact T.block λb y=>by obtain⟨c,I⟩:=jo.ty T y;exact C b c _ I (by decide)};rw[qh _ _ e];exact((h.mv i z).keep (λb c kE j=>y.keep b (lt j) λH=>e (h.mpi i n b z N kE (by rw[J,H]))) (λb c _ y=>C b c _ y (by decide)) (λb c _ y=>C b c _ y (by decide))).same lc lc lc (qh _ _ e)
end
open Go.RowKit Go.Maps
section
variable {w w':ae} {F F':dw->Prop} {A:PA} {s:St} {n h k:dw}
theorem But.drewN {B:dw->Prop} (h:But B w w') (n:dw):But B w (w'.drewN n):=⟨h.size,h.keep,h.os,h.output⟩
theorem zx.idle (p:zx w F A s) (y:But (λ_=>iO) w w'):zx w' F A s:=(p.lts.frame λb j=>y.keep b j.2 λx=>x).mono λ_ h=>h.1
theorem zx.DW {B:dw->Prop} {sP':dw->dw->dw×dw×dw} {sg':dw->dw->fo Sg} (p:zx w F A s) (z:But B w w') (hF:∀b,F b->F' b)
  (J:∀b,B b->b<w.heap.size->(∃cur,w.heap[b]?=ζ (aF cur 157 (0,0)))\/b=A.sm\/∃x y,x<4/\y<4/\(s.sg x y).isSome=η/\b=(A.sP x y).2.2) (M:tZ w' F' {A with sP:=sP'} sg'):zx w' F' {A with sP:=sP'} {s with sg:=sg'}:=by
 have lt:∀{b:dw} {o:Obj},w.heap[b]?=ζ o->b<w.heap.size:=λz=>(j5 z).1;have D:∀(b:dw) (cur:kw ai) (ty:aP),w.heap[b]?=ζ (aF cur ty (0,0))->ty≠157->w'.heap[b]?=w.heap[b]?:=λb cur ty C O=>z.keep b (lt C) λe=>by rcases J b e (lt C)with⟨c,e2⟩|e2|⟨x,y,E,H,I,e2⟩;{rw[e2]at C;exact O (jc C).symm};{exact p.yc.m.ty C e2};obtain⟨v,N⟩:=au.1 I;exact kz (p.yc.e x y v E H N).2.m C e2
 have P:∀i,i<4->w'.heap[A.mb i]?=w.heap[A.mb i]?:=λi j=>z.keep _ (p.mb i j).2.lt λe=>by rcases J _ e (p.mb i j).2.lt with⟨c,e2⟩|e2|⟨x,y,E,H,I,e2⟩;{exact kz (p.mb i j).2 e2 lc};{exact p.smb i j e2};exact(p.yc.n x y E H I).2 i j e2
 refine⟨⟨hF _ p.cl.1,(D _ _ _ p.cl.2 (by decide)).trans p.cl.2⟩,λi j=>⟨hF _ (p.db i j).1,(D _ _ _ (p.db i j).2 (by decide)).trans (p.db i j).2⟩,λi j=>⟨hF _ (p.mb i j).1,(p.mb i j).2.block (P i j)⟩,p.mbi,λi j=>?_,p.mpi,p.cvi,M,p.smb⟩;exact(((p.mv i j).keep (λb c _ z=>D b c _ z (by decide)) (λb c _ z=>D b c _ z (by decide)) (λb c _ z=>D b c _ z (by decide))).mono hF).same lc lc lc lc
theorem zx.jhv {sb db mb id next:dw} (p:zx w1 F A s) (hh:h<4) (hk:k<4) (j:But (· =A.sm) w1 w') (V:lH w' A.sm (vz (λh k=>(s.sg h k).map λ_=>(A.sP h k).1) h k (ζ sb)))
  (Y:jO w' sb db mb id next θ kv) (M:w.heap.size<=sb/\w.heap.size<=db/\w.heap.size<=mb) (hold:∀b,F b->b<w.heap.size) (R:w.heap.size<=w1.heap.size):zx w' (λb=>F b\/w.heap.size<=b) {A with sP:=λa b=>if a=h/\b=k then(sb,db,mb)else A.sP a b} {s with sg:=vz s.sg h k (ζ ⟨id,next,kv,θ⟩)}:=by
 have old:∀a b x,a<4->b<4->s.sg a b=ζ x->(A.sP a b).1<w.heap.size/\(A.sP a b).2.2<w.heap.size:=λa b x y j z=>⟨hold _ (p.yc.e a b x y j z).1.1,hold _ (p.yc.e a b x y j z).1.2.2⟩
 have olds:∀a b,a<4->b<4->(s.sg a b).isSome=η->(A.sP a b).1<w.heap.size/\(A.sP a b).2.2<w.heap.size:=λa b y j I=>by obtain⟨v,Z⟩:=au.1 I;exact old a b v y j Z
 have keep:∀b,F b->b≠A.sm->w'.heap[b]?=w1.heap[b]?:=λb T S=>j.keep b (xll (hold b T) R) S;refine p.DW j (λ_ h=>.inl h) (λb e _=>.inr (.inl e)) ⟨.inl p.yc.f,?_,λa b x y j z=>?_,λa b c d y j N O D E H=>?_,λa b y j I=>?_⟩
 .have e:(λa b=>(vz s.sg h k (ζ ⟨id,next,kv,θ⟩) a b).map λ_=>(if a=h/\b=k then(sb,db,mb)else A.sP a b).1)=vz (λh k=>(s.sg h k).map λ_=>(A.sP h k).1) h k (ζ sb):=by funext a b;unfold vz;by_cases e:a=h/\b=k;{simp only[gI e];rfl};simp only[eD e]
  show lH w' A.sm (λa b=>(vz s.sg h k (ζ ⟨id,next,kv,θ⟩) a b).map λ_=>(if a=h/\b=k then(sb,db,mb)else A.sP a b).1);rw[e];exact V
 .replace z:vz s.sg h k (ζ ⟨id,next,kv,θ⟩) a b=ζ x:=z;by_cases e:a=h/\b=k;{obtain⟨rfl,rfl⟩:=e;rw[xq]at z;cases z;show(_/\_/\_)/\jO w' (if a=a/\b=b then(sb,db,mb)else A.sP a b).1 (if a=a/\b=b then(sb,db,mb)else A.sP a b).2.1 (if a=a/\b=b then(sb,db,mb)else A.sP a b).2.2 _ _ _ _;simp only[and_self,gY];exact⟨⟨.inr M.1,.inr M.2.1,.inr M.2.2⟩,Y⟩}
  .rw[jy e]at z;obtain⟨⟨D,E,H⟩,J⟩:=p.yc.e a b x y j z;show(_/\_/\_)/\jO w' (if a=h/\b=k then(sb,db,mb)else A.sP a b).1 (if a=h/\b=k then(sb,db,mb)else A.sP a b).2.1 (if a=h/\b=k then(sb,db,mb)else A.sP a b).2.2 _ _ _ _;simp only[eD e];exact⟨⟨.inl D,.inl E,.inl H⟩,J.block λq P=>keep q (by rcases P with rfl|rfl|rfl<;>assumption) (by
    rcases P with rfl|rfl|rfl;{exact p.yc.m.ty J.s};{exact p.yc.m.ty J.d}
    .exact λC=>(p.yc.n a b y j (by rw[z];rfl)).1 C.symm)⟩
 .replace D:(vz s.sg h k (ζ ⟨id,next,kv,θ⟩) a b).isSome=η:=D;replace E:(vz s.sg h k (ζ ⟨id,next,kv,θ⟩) c d).isSome=η:=E;replace H:(if a=h/\b=k then(sb,db,mb)else A.sP a b).1=(if c=h/\d=k then(sb,db,mb)else A.sP c d).1\/(if a=h/\b=k then(sb,db,mb)else A.sP a b).2.2=(if c=h/\d=k then(sb,db,mb)else A.sP c d).2.2:=H;by_cases e1:a=h/\b=k;{by_cases C:c=h/\d=k;{omega};rw[jy C]at E;have:=olds c d N O E;simp only[gI e1,eD C]at H;omega};rw[jy e1]at D;by_cases C:c=h/\d=k;{have:=olds a b y j D;simp only[gI C,eD e1]at H;omega};rw[jy C]at E;simp only[eD C,eD e1]at H;exact p.yc.i a b c d y j N O D E H
 .replace I:(vz s.sg h k (ζ ⟨id,next,kv,θ⟩) a b).isSome=η:=I;show A.sm≠(if a=h/\b=k then(sb,db,mb)else A.sP a b).2.2/\∀i,i<4->A.mb i≠(if a=h/\b=k then(sb,db,mb)else A.sP a b).2.2;by_cases e:a=h/\b=k;{simp only[gI e];have D:=hold _ p.yc.f;exact⟨by omega,λi U=>by have:=hold _ (p.mb i U).1;omega⟩};simp only[eD e];rw[jy e]at I;exact p.yc.n a b y j I
theorem zx.jhw {x:Sg} {id next:dw} {done:jb} (p:zx w F A s) (I:h<4) (hk:k<4) (O:s.sg h k=ζ x) (D:But (λb=>b=(A.sP h k).1\/b=(A.sP h k).2.2) w w') (Z:jO w' (A.sP h k).1 (A.sP h k).2.1 (A.sP h k).2.2 id next done kv):
  zx w' F A {s with sg:=vz s.sg h k (ζ ⟨id,next,kv,done⟩)}/\But F w w':=by
 have j:=p.yc.e h k x I hk O;have H:(s.sg h k).isSome=η:=by rw[O];rfl
 have J:∀a b,(vz s.sg h k (ζ ⟨id,next,kv,done⟩) a b).isSome=(s.sg a b).isSome:=λa b=>by by_cases e:a=h/\b=k;{obtain⟨rfl,rfl⟩:=e;rw[xq,H];rfl};rw[jy e]
 refine⟨p.DW (sP':=A.sP) D (λ_ h=>h) (λb e _=>e.elim (λe=>.inl ⟨_,e▸j.2.s⟩) λe=>.inr (.inr ⟨h,k,I,hk,H,e⟩)) ⟨p.yc.f,?_,λa b y E M z=>?_,λa b c d E D V Y N T U=>p.yc.i a b c d E D V Y (by rwa [J]at N) (by rwa [J]at T) U,λa b E D H=>p.yc.n a b E D (by rwa [J]at H)⟩,D.mono λb e=>e.elim (λe=>e▸j.1.1) λe=>e▸j.1.2.2⟩
 .have e:(λa b=>(vz s.sg h k (ζ ⟨id,next,kv,done⟩) a b).map λ_=>(A.sP a b).1)=λa b=>(s.sg a b).map λ_=>(A.sP a b).1:=by funext a b;by_cases e:a=h/\b=k;{obtain⟨rfl,rfl⟩:=e;rw[xq,O];rfl};rw[jy e]
  show lH w' A.sm λa b=>(vz s.sg h k (ζ ⟨id,next,kv,done⟩) a b).map λ_=>(A.sP a b).1;rw[e];refine p.yc.m.block (D.keep _ p.yc.m.lt λe=>?_);rcases e with e|e;{exact p.yc.m.ty j.2.s e.symm};exact(p.yc.n h k I hk H).1 e
 .by_cases e:a=h/\b=k;{obtain⟨rfl,rfl⟩:=e;replace z:vz s.sg a b (ζ ⟨id,next,kv,done⟩) a b=ζ y:=z;rw[xq]at z;cases z;exact⟨j.1,Z⟩}
  .replace z:vz s.sg h k (ζ ⟨id,next,kv,done⟩) a b=ζ y:=z;rw[jy e]at z;obtain⟨N,C⟩:=p.yc.e a b y E M z;have S:(s.sg a b).isSome=η:=by rw[z];rfl
   refine⟨N,C.block λq R=>D.keep q ?_ ?_⟩;{rcases R with rfl|rfl|rfl;{exact(j5 C.s).1};{exact(j5 C.d).1};exact C.m.lt};rcases R with rfl|rfl|rfl;{rintro(e2|e2);{exact e (p.yc.i a b h k E M I hk S H (.inl e2))};exact kz j.2.m C.s e2};{rintro(e2|e2);{have P:=C.d;rw[e2,j.2.s]at P;exact gU (jc P) (by decide)};exact kz j.2.m C.d e2};rintro(e2|e2);{exact kz C.m j.2.s e2.symm};exact e (p.yc.i a b h k E M I hk S H (.inr e2))
end
namespace Ph
section
open Go.Conc Go.ConcN Go.RowKit Go.Maps Go.Conc.Lib Go Sim
theorem kD.idleB {F:dw->Prop} {A:PA} {s:St} {v:ai} (h:zx w F A s) (j:But (λ_=>iO) w w'):kD w F A v s (ψ v) w':=⟨lc,A,lc,(h.idle j).mono λ_ h=>.inl h,j.mono λ_ x=>x.elim⟩
def kK (f:Fr) (k:dw):Bs:=Fr.bytes ⟨k,f.qb,f.id,f.n,[]⟩
theorem q4d (kd:gF) (sh id n k:dw) (ld:bn) (hk:k<256) (H:sh<256) (j:id<9223372036854775808) (E:n<9223372036854775808):
  aE prog 102 #[Θ #[σ Ξ kd,σ υ sh,σ υ id,σ υ n,Γ ld],σ Ξ k] w λe w'=>e=ψ (sv (Fr.bytes ⟨k,sh,id,n,[]⟩))/\But (λ_=>iO) w w':=by
 have D:=Hd (λw=>Wm (w:=w) k sh id n ⟨#[]⟩ hk H j E (by decide));have y:sv (Fr.bytes ⟨k,sh,id,n,[]⟩)=Γ (frB k sh id n ⟨#[]⟩):=lc;rw[y];clear y;generalize frB k sh id n ⟨#[]⟩=fb at*;go_enter func102,ntmps102;go_wp2_with (go_at_call 75;refine(D.o _).mono ?_;rintro e w2 ⟨rfl,z⟩;have C:=Hd z;clear z)
 go_ret;exact⟨lc,il (((qy _ _).alloc (jg _) _).trans (C.mono (by simp)))⟩
def dlF (f:Fr) (o:fo Sg):Bs×fo Sg:=
 if f.kind=1 then
  if f.n≠0\/f.load≠[]\/(∃x,o=ζ x/\f.id<x.id)then([],o)
  else(kK f 5,match o with
   |none=>ζ ⟨f.id,1,[],θ⟩
   |some x=>if x.id<f.id then ζ ⟨f.id,1,[],θ⟩else ζ x)
 else match o with
  |none=>(kK f 6,ε)
  |some x=>if x.id<f.id then(kK f 6,ζ x)else if f.id<x.id then([],ζ x)else if x.next<f.n then(kK f 6,ζ x)
   else if f.n<x.next then(kK f 5,ζ x)else if x.done then([],ζ x)
   else if(qV f.kind f.qb f.load x.kv).1 then(kK f 5,ζ ⟨x.id,x.next+1,(qV f.kind f.qb f.load x.kv).2.1,(qV f.kind f.qb f.load x.kv).2.2⟩)else([],ζ x)
def Cj (f:Fr):jb:=ν (f.qb<4)&&ν (1<=f.kind)&&ν (f.kind<=4)
def dlE (s:St) (h:gF):gF:=if h<0\/s.hosts<=h then 1 else 0
def dlR (s:St) (h:gF) (u:Bs):Bs×St:=if h<0\/s.hosts<=h then([],s)else match jY u with
 |none=>([],s)
 |some f=>if Cj f then((dlF f (s.sg h.toNat f.qb)).1,{s with sg:=vz s.sg h.toNat f.qb (dlF f (s.sg h.toNat f.qb)).2})else([],s)
theorem MV {α:Type} {f:dw->dw->fo α} {o:fo α} (e:f h k=o):vz f h k o=f:=by funext a b;by_cases e2:a=h/\b=k;{obtain⟨rfl,rfl⟩:=e2;rw[xq,e]};rw[jy e2]
theorem CJ {f:Fr} (h:ld.data.toList=f.load):frV f=Θ #[σ Ξ f.kind,σ υ f.qb,σ υ f.id,σ υ f.n,Γ ld]:=by unfold frV;rw[qx h]
section
variable {w w':ae} {F:dw->Prop} {A:PA} {s:St}
structure DvW (w0:ae) (F:dw->Prop) (A:PA) (s:St) (h:dw) (f:Fr) (fb pb:dw) (w:ae):Prop where
 p:zx w F A s
 b:But (λ_=>iO) w0 w
 fr:w.heap[fb]?=ζ (ω #[σ Ξ f.kind,σ υ f.qb,σ υ f.id,σ υ f.n,sv f.load] 133 (0,0))
 q:w.heap[pb]?=ζ (ω #[σ υ h,σ υ f.qb] 154 (0,0))
theorem DvW.drewN {fb:dw} {f:Fr} (d:DvW w0 F A s h f fb pb w) (n:dw):DvW w0 F A s h f fb pb (w.drewN n):=⟨d.p.idle (But.drewN (But.refl _ _) n),d.b.drewN n,d.fr,d.q⟩
theorem DvW.of {f:Fr} (p:zx w0 F A s) (z:But (λ_=>iO) w0 w) (y:ld.data.toList=f.load):DvW w0 F A s h f w.heap.size (w.heap.size+1) ((w.alloc (ω #[σ Ξ f.kind,σ υ f.qb,σ υ f.id,σ υ f.n,Γ ld] 133)).alloc (ω #[σ υ h,σ υ f.qb] 154)):=by have j:=z.trans (il (B:=λ_=>iO) (((qy w.heap.size w).alloc (jg _) (ω #[σ Ξ f.kind,σ υ f.qb,σ υ f.id,σ υ f.n,Γ ld] 133)).alloc (by simp) (ω #[σ υ h,σ υ f.qb] 154)));exact⟨p.idle j,j,by rw[aD _ _ (by simp),aO,qx y],heap_alloc_new' _ _ (by simp)⟩
theorem DvW.cells {w0:ae} {h fb pb:dw} {f:Fr} {ld:bn} (d:DvW w0 F A s h f fb pb w) (y:ld.data.toList=f.load):w.cell? ⟨fb,0,ε⟩=ζ (σ Ξ f.kind)/\w.cell? ⟨fb,1,ε⟩=ζ (σ υ f.qb)/\w.cell? ⟨fb,2,ε⟩=ζ (σ υ f.id)/\w.cell? ⟨fb,3,ε⟩=ζ (σ υ f.n)/\w.cell? ⟨fb,4,ε⟩=ζ (Γ ld)/\w.cell? ⟨pb,0,ε⟩=ζ (σ υ h)/\w.cell? ⟨pb,1,ε⟩=ζ (σ υ f.qb)/\w.cell? ⟨A.cl,13,ε⟩=ζ (.map (ζ A.sm)):=by have j:=d.fr;rw[qx y]at j;exact⟨by simp[aa,j],by simp[aa,j],by simp[aa,j],by simp[aa,j],by simp[aa,j],by simp[aa,d.q],by simp[aa,d.q],(d.p.cells 13 _ lc).1⟩
theorem zx.look (p:zx w F A s) (j:h<4) (hk:k<4):(aN 76 (.map (ζ A.sm)) (Θ #[σ υ h,σ υ k]) θ).run prog w=.ok (ptr ((s.sg h k).map λ_=>(A.sP h k).1)) w:=p.yc.m.look j hk
theorem jfh (f:Fr) (j:f.Ok) (k:dw) (hk:k<256) (ld:bn) (W:ae):aE prog 102 #[Θ #[σ Ξ f.kind,σ υ f.qb,σ υ f.id,σ υ f.n,Γ ld],σ Ξ k] W λe w'=>e=ψ (sv (kK f k))/\But (λ_=>iO) W w':=
 q4d f.kind f.qb f.id f.n k ld hk j.qb (by have:=j.id;omega) (by have:=j.n;omega)
theorem DvW.same {fb:dw} {f:Fr} {v:ai} {b:Bs} (d:DvW w0 F A s h f fb pb w) (z:zx w0 F A s) (j:But (λ_=>iO) w w2) (e:dlF f (s.sg h f.qb)=(b,s.sg h f.qb)) (y:v=ο #[sv b,σ υ 0]):
  kD w0 F A (ο #[sv (dlF f (s.sg h f.qb)).1,σ υ 0]) {s with sg:=vz s.sg h f.qb (dlF f (s.sg h f.qb)).2} (ψ v) w2:=by
 rw[e,y];simp only[MV lc];exact .idleB z (d.b.trans j)
theorem DvW.stage {fb:dw} {f:Fr} (d:DvW w0 F A s h f fb pb w) (p0:zx w0 F A s) (U:h<4) (V:f.qb<4) (e:w2=rP w.drew) (T:ld.data.toList=f.load):∃y,(Instr.mapUpdate 76 (.map (ζ A.sm)) (Θ #[σ υ h,σ υ f.qb]) (ξ (ζ ⟨w2.heap.size,0,ε⟩))).run prog (w2.alloc (ω #[σ υ f.id,σ υ 1,ξ (ζ ⟨w.heap.size+1,0,ε⟩),χ θ] 157))=.ok () y/\
  Hid ((∃P,P.cl=A.cl/\zx y (λb=>F b\/w0.heap.size<=b) P {s with sg:=vz s.sg h f.qb (ζ ⟨f.id,1,[],θ⟩)})/\But F w0 y)/\y.cell? ⟨fb,0,ε⟩=ζ (σ Ξ f.kind)/\y.cell? ⟨fb,1,ε⟩=ζ (σ υ f.qb)/\y.cell? ⟨fb,2,ε⟩=ζ (σ υ f.id)/\y.cell? ⟨fb,3,ε⟩=ζ (σ υ f.n)/\y.cell? ⟨fb,4,ε⟩=ζ (Γ ld)/\w2.cell? ⟨fb,2,ε⟩=ζ (σ υ f.id)/\w2.cell? ⟨pb,0,ε⟩=ζ (σ υ h)/\w2.cell? ⟨pb,1,ε⟩=ζ (σ υ f.qb)/\w2.cell? ⟨A.cl,13,ε⟩=ζ (.map (ζ A.sm))/\fb<w2.heap.size/\pb<w2.heap.size/\A.cl<w2.heap.size:=by
 have N:aC w.heap.size w w2:=by rw[e];exact((qy _ _).drew.alloc (jg _) _).alloc (by simp) _
 have sj:w2.heap.size=w.heap.size+2:=by rw[e];simp[rP]
 have m2:w2.heap[w.heap.size]?=ζ (.map #[] 0):=by rw[e];unfold rP;rw[aD _ _ (by simp)];exact heap_alloc_new' _ _ lc
 have c2:w2.heap[w.heap.size+1]?=ζ (ω #[.map (ζ w.heap.size)] 142 (0,0)):=by rw[e];exact heap_alloc_new' _ _ (by simp)
 obtain⟨j,D⟩:∃j,w2.alloc (ω #[σ υ f.id,σ υ 1,ξ (ζ ⟨w.heap.size+1,0,ε⟩),χ θ] 157)=j:=⟨_,lc⟩
 have R:aC w.heap.size w j:=by rw[<-D];exact N.alloc N.size _
 have s3:j.heap[w2.heap.size]?=ζ (ω #[σ υ f.id,σ υ 1,ξ (ζ ⟨w.heap.size+1,0,ε⟩),χ θ] 157 (0,0)):=by rw[<-D];exact aO _ _
 have Z:j.heap[w.heap.size]?=ζ (.map #[] 0):=by rw[<-D,aD _ _ (by omega)];exact m2
 have S:j.heap[w.heap.size+1]?=ζ (ω #[.map (ζ w.heap.size)] 142 (0,0)):=by rw[<-D,aD _ _ (by omega)];exact c2
 rw[D];have O:But (λ_=>iO) w0 j:=d.b.trans (il R);have H:zx j (λb=>F b/\b<w0.heap.size) A s:=p0.lts.idle O;obtain⟨y,fA,hm,E⟩:=H.yc.m.put U V w2.heap.size;have hsm:A.sm<w0.heap.size:=H.yc.f.2;have hz:w0.heap.size<=w.heap.size:=d.b.size;have M:∀b,b<j.heap.size->b≠A.sm->y.heap[b]?=j.heap[b]?:=λb z h2=>E.keep b z h2;have I:∀{b:dw} {o:Obj},j.heap[b]?=ζ o->b<j.heap.size:=λE=>(j5 E).1;have C:y.heap[fb]?=ζ (ω #[σ Ξ f.kind,σ υ f.qb,σ υ f.id,σ υ f.n,Γ ld] 133 (0,0)):=by have z:=(R.block fb (j5 d.fr).1).trans d.fr;rw[qx T]at z;exact(M fb (I z) (H.yc.m.ty z)).trans z
 refine⟨y,fA,Hd ⟨⟨_,by rfl,(H.jhv (w:=w0) (id:=f.id) (next:=1) (kv:=[]) (sb:=w2.heap.size) (db:=w.heap.size+1) (mb:=w.heap.size) U V E hm ⟨(M _ (I s3) (by omega)).trans s3,(M _ (I S) (by omega)).trans S,Qp ((M _ (I Z) (by omega)).trans Z)⟩ ⟨by omega,by omega,hz⟩ (λb h=>h.2) O.size).mono λb h=>h.imp (·.1) id⟩,(O.mono λ_ x=>x.elim).trans (E.mono λb e=>e▸H.yc.f.1)⟩,by simp[aa,C],by simp[aa,C],by simp[aa,C],by simp[aa,C],by simp[aa,C],?_⟩;obtain⟨_,_,x2,_,_,y0,y1,z0⟩:=d.cells T;have J:=λ(a:Addr) (v:ai) (Y:w.cell? a=ζ v)=>(N.cell (xbl w a Y)).trans Y;have l1:=(j5 d.fr).1;have l2:=(j5 d.q).1;have l3:=d.p.clt;exact⟨J _ _ x2,J _ _ y0,J _ _ y1,J _ _ z0,by omega,by omega,by omega⟩
theorem Y1 (y:dw->ai):lay 168 y=#[y 0,y 1,y 2,y 3,y 4,y 5,y 6,y 7,y 8,y 9,y 10,y 11,y 12,y 13,y 14,y 15,y 16,y 17,y 18,y 19,y 20,y 21,y 22,y 23,y 24,y 25,y 26,y 27,y 28,y 29,y 30,y 31,y 32,y 33,y 34,y 35,y 36,y 37,y 38,y 39,y 40,y 41,y 42,y 43,y 44,y 45,y 46,y 47,y 48,y 49,y 50,y 51,y 52,y 53,y 54,y 55,y 56,y 57,y 58,y 59,y 60,y 61,y 62,y 63,y 64,y 65,y 66,y 67,y 68,y 69,y 70,y 71,y 72,y 73,y 74,y 75,y 76,y 77,y 78,y 79,y 80,y 81,y 82,y 83,y 84,y 85,y 86,y 87,y 88,y 89,y 90,y 91,y 92,y 93,y 94,y 95,y 96,y 97,y 98,y 99,y 100,y 101,y 102,y 103,y 104,y 105,y 106,y 107,y 108,y 109,y 110,y 111,y 112,y 113,y 114,y 115,y 116,y 117,y 118,y 119,y 120,y 121,y 122,y 123,y 124,y 125,y 126,y 127,y 128,y 129,y 130,y 131,y 132,y 133,y 134,y 135,y 136,y 137,y 138,y 139,y 140,y 141,y 142,y 143,y 144,y 145,y 146,y 147,y 148,y 149,y 150,y 151,y 152,y 153,y 154,y 155,y 156,y 157,y 158,y 159,y 160,y 161,y 162,y 163,y 164,y 165,y 166,y 167]:=rfl
theorem jl9 {w:ae} (h:t.size=n) (g:K ⟨lay n λj=>t.getD j aX,[]⟩ w):K ⟨t,[]⟩ w:=by
 have e:lay n (λj=>t.getD j aX)=t:=by apply Array.ext;{simp[lay,h]};intro i z y;simp[lay,Array.getD,y]
 rwa [e]at g
noncomputable def NY:kw Oper:=match Tryz.f63.body with
 |some (.seq _ (.seq _ (.seq _ (.seq _ (.seq _ (.seq _ (.seq (.seq _ (.cond _ (.seq _ (.seq (.seq _ (.cond _ a _)) _)) _)) _)))))))=>rg a
 |_=>#[]
theorem jfw {fb:dw} {f:Fr} {x:dw->ai} {Y:Act->ae->Prop} (d:DvW w0 F A s h f fb pb w) (M:zx w0 F A s) (I:h<4) (J:f.qb<4) (C:ld.data.toList=f.load) (x0:x 0=ξ (ζ ⟨A.cl,0,ε⟩)) (O:x 8=ξ (ζ ⟨fb,0,ε⟩)) (N:x 10=ξ (ζ ⟨pb,0,ε⟩))
  (done:∀(y:dw->ai) (z:ae),y 8=ξ (ζ ⟨fb,0,ε⟩)->Hid ((∃E,E.cl=A.cl/\zx z (λb=>F b\/w0.heap.size<=b) E {s with sg:=vz s.sg h f.qb (ζ ⟨f.id,1,[],θ⟩)})/\But F w0 z)->z.cell? ⟨fb,0,ε⟩=ζ (σ Ξ f.kind)->z.cell? ⟨fb,1,ε⟩=ζ (σ υ f.qb)->z.cell? ⟨fb,2,ε⟩=ζ (σ υ f.id)->z.cell? ⟨fb,3,ε⟩=ζ (σ υ f.n)->z.cell? ⟨fb,4,ε⟩=ζ (Γ ld)->K ⟨lay 168 y,[]⟩ z):
  aG prog (aK 12 NY η) (Exit.then K (Exit.then Y (bodyPost prog Tryz.f63 PP))) ⟨lay 168 x,[]⟩ w:=by
 obtain⟨k0,k1,k2,k3,k4,q0,q1,m0⟩:=d.cells C;have D:=Hd d;have P:=Hd M;have T:=Hd I;have V:=Hd J;have U:=Hd C;have S:=Hd done;clear d M I J C done;obtain⟨x,rfl⟩:=ql x0;obtain⟨x,rfl⟩:=ql (x:=x) (j:=8) (v:=ξ (ζ ⟨fb,0,ε⟩)) O;obtain⟨x,rfl⟩:=ql (x:=x) (j:=10) (v:=ξ (ζ ⟨pb,0,ε⟩)) N;clear x0 O N;rw[Y1];unfold NY;simp only[Tryz.f63,rg,upd,aj,gY,gJ];go_region_with (first|(go_at_call 39;refine Qf.mono ?_;rintro e w2 ⟨rfl,H⟩;obtain⟨z,fA,R,z0,z1,z2,z3,z4,y2,yz0,yz1,Z,l1,l2,l3⟩:=D.stage P.out T.o V.o H U.o;clear H))
 all_goals exact jl9 lc (S.o _ _ lc R z0 z1 z2 z3 z4)
theorem zx.sgc {x:Sg} (p:zx w F A s) (j:h<4) (hk:k<4) (y:s.sg h k=ζ x):jO w (A.sP h k).1 (A.sP h k).2.1 (A.sP h k).2.2 x.id x.next x.done x.kv:=(p.yc.e h k x j hk y).2
theorem q84 {kd sh:dw} {ld:Bs} (h:(qV kd sh ld kv).1=θ):qV kd sh ld kv=(θ,kv,θ):=by
 unfold qV at h|-;by_cases h4:kd=4;{rw[gI h4]at h|-;replace h:ld.isEmpty=θ:=h;rw[h]}
 .rw[eD h4]at h|-;cases e:yC kd sh ld with
  |none=>rfl
  |some cs=>rw[e]at h;cases h
theorem jO.step {sb db mb id next:dw} {kv:KV} {done:jb} (h:jO w sb db mb id next done kv) (n:dw):jO (w.setCell ⟨sb,1,ε⟩ (σ υ n)) sb db mb id n done kv/\But (λq=>q=sb\/q=mb) w (w.setCell ⟨sb,1,ε⟩ (σ υ n)):=by refine⟨⟨(xhs w sb 1 _ _ (σ υ n) h.s).trans lc,(xho w _ _ _ h.ne.symm).trans h.d,h.m.block (xho w _ _ _ λe=>kz h.m h.s e.symm)⟩,But.setCell (But.refl _ _) (.inl lc) _ _⟩
theorem DvW.took {x:Sg} {fb:dw} {f:Fr} (d:DvW w0 F A s h f fb pb w) (C:ld.data.toList=f.load) (E:h<4) (H:f.qb<4) (I:s.sg h f.qb=ζ x) (D:But (λb=>b=(A.sP h f.qb).1\/b=(A.sP h f.qb).2.2) w w2):
  w2.cell? ⟨fb,0,ε⟩=ζ (σ Ξ f.kind)/\w2.cell? ⟨fb,1,ε⟩=ζ (σ υ f.qb)/\w2.cell? ⟨fb,2,ε⟩=ζ (σ υ f.id)/\w2.cell? ⟨fb,3,ε⟩=ζ (σ υ f.n)/\w2.cell? ⟨fb,4,ε⟩=ζ (Γ ld):=by
 have z:=zx.sgc d.p E H I;have j:=(D.keep fb (j5 d.fr).1 (by
  rintro(e|e);{have y:=d.fr;rw[e,z.s]at y;exact gU (jc y) (by decide)}
  .exact kz z.m d.fr e)).trans d.fr
 rw[qx C]at j;exact⟨by simp[aa,j],by simp[aa,j],by simp[aa,j],by simp[aa,j],by simp[aa,j]⟩
theorem zx.jc3 {x:Sg} {id next:dw} {done:jb} (p:zx w F A s) (y:h<4) (hk:k<4) (C:s.sg h k=ζ x) (j:But (λb=>b=(A.sP h k).1\/b=(A.sP h k).2.2) w w2) (z:jO w2 (A.sP h k).1 (A.sP h k).2.1 (A.sP h k).2.2 id next done kv):
  zx w2 F A {s with sg:=vz s.sg h k (ζ ⟨id,next,kv,done⟩)}/\But F w w2:=p.jhw y hk C j z
theorem jkc {fb:dw} {f:Fr} {D:Act->ae->Prop} (M:t.size=168) (d:DvW w0 F A s h f fb pb w) (N:zx w0 F A s) (I:h<4) (J:f.qb<4) (E:ld.data.toList=f.load) (x0:t.getD 0 aX=ξ (ζ ⟨A.cl,0,ε⟩)) (P:t.getD 8 aX=ξ (ζ ⟨fb,0,ε⟩)) (O:t.getD 10 aX=ξ (ζ ⟨pb,0,ε⟩))
  (done:∀(y:dw->ai) (z:ae),y 8=ξ (ζ ⟨fb,0,ε⟩)->Hid ((∃C,C.cl=A.cl/\zx z (λb=>F b\/w0.heap.size<=b) C {s with sg:=vz s.sg h f.qb (ζ ⟨f.id,1,[],θ⟩)})/\But F w0 z)->z.cell? ⟨fb,0,ε⟩=ζ (σ Ξ f.kind)->z.cell? ⟨fb,1,ε⟩=ζ (σ υ f.qb)->z.cell? ⟨fb,2,ε⟩=ζ (σ υ f.id)->z.cell? ⟨fb,3,ε⟩=ζ (σ υ f.n)->z.cell? ⟨fb,4,ε⟩=ζ (Γ ld)->K ⟨lay 168 y,[]⟩ z):
  aG prog (aK 12 NY η) (Exit.then K (Exit.then D (bodyPost prog Tryz.f63 PP))) ⟨t,[]⟩ w:=by
 have e:lay 168 (λj=>t.getD j aX)=t:=by apply Array.ext;{simp[lay,M]};intro i R H;simp[lay,Array.getD,H]
 rw[<-e];exact jfw d N I J E x0 P O done
theorem jd8 (f:Fr) {b:jb} {o:fo Sg} (e:o=ε) (j:b=f.load.isEmpty):
  ((f.kind:gF)==1)=θ/\dlF f o=(kK f 6,o)\/((f.kind:gF)==1)=η/\(((f.n:gF) !=0)=η/\dlF f o=([],o)\/((f.n:gF) !=0)=θ/\(b=θ/\dlF f o=([],o)\/b=η/\dlF f o=(kK f 5,ζ ⟨f.id,1,[],θ⟩))):=by
 subst e j;unfold dlF;by_cases k:f.kind=1<;>by_cases n:f.n=0<;>cases f.load<;>simp[k,n]<;>omega
theorem P8 {o:fo Sg} {x:Sg} {b:jb} (f:Fr) (e:o=ζ x) (C:b=f.load.isEmpty):
  ((f.kind:gF)==1)=η/\(((f.n:gF) !=0)=η/\dlF f o=([],o)\/((f.n:gF) !=0)=θ/\(b=θ/\dlF f o=([],o)\/b=η/\(ν (f.id<x.id)=η/\dlF f o=([],o)\/ν (f.id<x.id)=θ/\(ν (x.id<f.id)=η/\dlF f o=(kK f 5,ζ ⟨f.id,1,[],θ⟩)\/ν (x.id<f.id)=θ/\dlF f o=(kK f 5,o)))))
  \/((f.kind:gF)==1)=θ/\(ν (x.id<f.id)=η/\dlF f o=(kK f 6,o)\/ν (x.id<f.id)=θ/\(((x.id:gF)==f.id)=θ/\ν (f.id<x.id)=η/\dlF f o=([],o)\/((x.id:gF)==f.id)=η/\ν (f.id<x.id)=θ/\(ν (x.next<f.n)=η/\dlF f o=(kK f 6,o)\/ν (x.next<f.n)=θ/\(((f.n:gF)==x.next)=θ/\dlF f o=(kK f 5,o)\/((f.n:gF)==x.next)=η/\(x.done=η/\dlF f o=([],o)\/x.done=θ/\(qV f.kind f.qb f.load x.kv=(θ,x.kv,θ)/\dlF f o=([],ζ ⟨x.id,x.next,x.kv,θ⟩)\/∃kv c,qV f.kind f.qb f.load x.kv=(η,kv,c)/\dlF f o=(kK f 5,ζ ⟨x.id,x.next+1,kv,c⟩))))))):=by
 subst e C;unfold dlF;by_cases k:f.kind=1;{by_cases n:f.n=0<;>cases f.load<;>rcases Nat.lt_trichotomy f.id x.id with h|h|h<;>simp[k,n,h]<;>omega};have hk:((f.kind:gF)==1)=θ:=by simp;omega
 refine .inr ⟨hk,?_⟩;rw[eD k];by_cases h1:x.id<f.id;{simp[h1]};by_cases h2:f.id<x.id;{simp[h1,h2];omega};have j:x.id=f.id:=by omega
 by_cases h4:x.next<f.n;{simp[j,h4]};by_cases h5:f.n<x.next;{simp[j,h4,h5];omega};have y:f.n=x.next:=by omega
 have z:=q84 (kd:=f.kind) (sh:=f.qb) (ld:=f.load) (kv:=x.kv);rcases t:qV f.kind f.qb f.load x.kv with⟨_|_,kv,c⟩
 .rw[t]at z;cases z lc;cases d:x.done<;>simp[j,y,d];cases x
  simp_all
 .cases d:x.done<;>simp[j,y,d,t]
theorem jai {o:fo Sg} {x:Sg} {b:jb} (f:Fr) (e:o=ζ x) (d:x.done=θ) (j:b=f.load.isEmpty) (h:qV f.kind f.qb f.load x.kv=(θ,x.kv,θ)/\dlF f o=([],ζ ⟨x.id,x.next,x.kv,θ⟩)\/∃kv c,qV f.kind f.qb f.load x.kv=(η,kv,c)/\dlF f o=(kK f 5,ζ ⟨x.id,x.next+1,kv,c⟩)):
  ((f.kind:gF)==4)=η/\(b=θ/\dlF f o=([],o)\/b=η/\dlF f o=(kK f 5,ζ ⟨x.id,x.next+1,x.kv,η⟩))\/((f.kind:gF)==4)=θ/\(yC f.kind f.qb f.load=ε/\dlF f o=([],o)\/∃cs,yC f.kind f.qb f.load=ζ cs/\dlF f o=(kK f 5,ζ ⟨x.id,x.next+1,cs.foldl doL x.kv,θ⟩)):=by
 have y:ζ ⟨x.id,x.next,x.kv,θ⟩=o:=by rw[e,<-d]
 rw[y]at h;subst j;unfold qV at h;by_cases k:f.kind=4
 .have z:((f.kind:gF)==4)=η:=by simp[k]
  simp only[gI k]at h;cases hl:f.load.isEmpty<;>rw[hl]at h<;>simp_all
 .have z:((f.kind:gF)==4)=θ:=by simp;omega
  simp only[eD k]at h;cases hl:yC f.kind f.qb f.load<;>rw[hl]at h<;>simp_all
theorem qx2 (p:zx w F A s) (Hg:s.hosts<=4) (kF:∀h k x,h<4->k<4->s.sg h k=ζ x->x.kv.length<=268435456/\x.next<=4611686018427387904/\x.id<=4611686018427387904) (h:gF) (u:bn) (hu:u.size<=268435456) (Dm: -9223372036854775808<=h/\h<=9223372036854775807):
  aE prog 63 #[ξ (ζ ⟨A.cl,0,ε⟩),σ υ h,Γ u] w (kD w F A (ο #[sv (dlR s h u.data.toList).1,σ υ (dlE s h)]) (dlR s h u.data.toList).2):=by
 have c0:w.cell? ⟨A.cl,0,ε⟩=ζ (σ υ s.hosts):=(p.cells 0 _ lc).1;have H:=Hd p;unfold dlR dlE;by_cases qA:h<0\/s.hosts<=h
 .rw[gI qA,gI qA];clear p kF;have hw:ν (h<0)=η\/ν (h<0)=θ/\ν ((s.hosts:gF)<=h)=η:=by simp;omega
  rcases hw with g1|⟨g1,g2⟩;all_goals
   go_enter func63,ntmps63;go_wp2;go_ret2;exact .idle H.o (qy _ _)
 rw[eD qA,eD qA];obtain⟨h,rfl⟩:∃n:dw,h=n:=⟨h.toNat,by omega⟩
 have E:Hid (h<4):=Hd (by omega);rw[ah];have g1:ν ((h:gF)<0)=θ:=xdf (by omega);have g2:ν (s.hosts<=h)=θ:=xdf (by omega);have I:=Hd (Iw (w:=w) u (by omega));have TT:=Hd kF;unfold vg at I;clear p kF;cases iT:jY u.data.toList with
 |none=>
  rw[iT]at I;go_enter func63,ntmps63;go_wp2_with (go_at_call 101;refine I.mono ?_;rintro e w1 ⟨⟨f,rfl⟩,C⟩;obtain⟨ld,Y⟩:=qc f.load;rw[CJ Y];have P:=Hd C;clear C Y)
  go_ret2;exact .idleB H.o (P.trans (il ((qy _ _).alloc (jg _) _)))
 |some f=>
  rw[iT]at I;have OW:=Hd (MO iT).2;obtain⟨ld,Y⟩:=qc f.load;have z:=Hd Y;clear iT Y;cases fP:Cj f
  .have hbi:(4:gF)<=f.qb\/(f.kind:gF)<1\/(4:gF)<f.kind:=by simp only[Cj,aJ,decide_eq_false_iff_not]at fP;omega
   simp only[fP,bh,gJ];clear fP;go_enter func63,ntmps63;go_wp2_with (go_at_call 101;refine I.mono ?_;rintro e w1 ⟨rfl,C⟩;rw[CJ z.o];have P:=Hd C;clear C)
   all_goals first
    |(exfalso;omega)
    |(go_ret2
      exact .idleB H.o (P.trans (il ((qy _ _).alloc (jg _) _))))
  simp only[fP,gY];simp only[Cj,aA,jC]at fP;obtain⟨⟨qE,rD⟩,SN⟩:=fP;have j1:ν ((4:gF)<=f.qb)=θ:=xdf (by omega);have j2:ν ((f.kind:gF)<1)=θ:=xdf (by omega);have j3:ν ((4:gF)<f.kind)=θ:=xdf (by omega);have J:=Hd qE;have HKD:=Hd (ac rD SN);clear qE rD SN;go_enter func63,ntmps63;go_wp2_with (go_at_call 101;refine I.mono ?_;rintro e w1 ⟨rfl,C⟩;rw[CJ z.o];have P:=Hd C;clear C)
  obtain⟨V,hW⟩:∃V,(w1.alloc (ω #[σ Ξ f.kind,σ υ f.qb,σ υ f.id,σ υ f.n,Γ ld] 133)).alloc (ω #[σ υ h,σ υ f.qb] 154)=V:=⟨_,lc⟩
  have D:=Hd (DvW.of (h:=h) H.o P.o z.o);rw[hW]at D|-;clear hW;obtain⟨k0,k1,k2,k3,k4,q0,q1,m0⟩:=D.cells z.o;have hl:∀n,(aN 76 (.map (ζ A.sm)) (Θ #[σ υ h,σ υ f.qb]) θ).run prog (V.drewN n)=.ok (ptr ((s.sg h f.qb).map λ_=>(A.sP h f.qb).1)) (V.drewN n):=λn=>zx.look (D.drewN n).p E.o J.o;have HA:=Hd (λk hk W=>jfh f OW.o k hk ld W);obtain⟨a5,h5⟩:=qc (kK f 5);obtain⟨a6,h6⟩:=qc (kK f 6);have vW:=Hd (qx h5);have KU:=Hd (qx h6);clear h5 h6 I g1 g2 j1 j2 j3;have gX:ld.toList.isEmpty=f.load.isEmpty:=by rw[aM,z.o]
  rcases ho:s.sg h f.qb with _|x;all_goals
   rw[ho]at hl;dsimp only[Option.map,ptr]at hl
  all_goals first
   |(rcases jd8 f ho gX with⟨Dl,j⟩|⟨Dl,⟨BK,j⟩|⟨BK,⟨he,j⟩|⟨he,j⟩⟩⟩)
   |(have FK:Hid (∀{V w2:ae},DvW w F A s h f w1.heap.size (w1.heap.size+1) V->But (λb=>b=(A.sP h f.qb).1\/b=(A.sP h f.qb).2.2) V w2->w2.cell? ⟨w1.heap.size,0,ε⟩=ζ (σ Ξ f.kind)/\w2.cell? ⟨w1.heap.size,1,ε⟩=ζ (σ υ f.qb)/\w2.cell? ⟨w1.heap.size,2,ε⟩=ζ (σ υ f.id)/\w2.cell? ⟨w1.heap.size,3,ε⟩=ζ (σ υ f.n)/\w2.cell? ⟨w1.heap.size,4,ε⟩=ζ (Γ ld)):=Hd λd hb=>d.took z.o E.o J.o ho hb
     have R:Hid (∀{V w2:ae} {id next:dw} {done:jb} {kv:KV},zx V F A s->But (λb=>b=(A.sP h f.qb).1\/b=(A.sP h f.qb).2.2) V w2->jO w2 (A.sP h f.qb).1 (A.sP h f.qb).2.1 (A.sP h f.qb).2.2 id next done kv->zx w2 F A {s with sg:=vz s.sg h f.qb (ζ ⟨id,next,kv,done⟩)}/\But F V w2):=Hd λp hb hs=>zx.jc3 p E.o J.o ho hb hs;have O:Hid (∀{V:ae},zx V F A s->jO V (A.sP h f.qb).1 (A.sP h f.qb).2.1 (A.sP h f.qb).2.2 x.id x.next x.done x.kv):=Hd λp=>zx.sgc p E.o J.o ho;have hxn:=(TT.o h f.qb x E.o J.o ho).2.1;have HXL:=Hd (TT.o h f.qb x E.o J.o ho).1;generalize (A.sP h f.qb).1=sb at hl O FK R;generalize (A.sP h f.qb).2.1=db at O R;generalize (A.sP h f.qb).2.2=mb at O FK R;have HT:Hid (x.done=θ->((f.kind:gF)==1)=θ->∀{V:ae},zx V F A s->aE prog 103 #[ξ (ζ ⟨sb,0,ε⟩),Θ #[σ Ξ f.kind,σ υ f.qb,σ υ f.id,σ υ f.n,Γ ld]] V (Jf V sb db mb x.id x.next (qV f.kind f.qb f.load x.kv))):=Hd λnI hk V p=>by have S:=O.o p;rw[nI]at S;have rA:=HKD.o;rw[<-z.o];exact jih S f.kind f.qb f.id f.n ld (by simp at hk;omega) (by rw[jl z.o];exact Nat.le_of_lt OW.load) HXL.o
     rcases P8 f ho gX with⟨Dl,⟨BK,j⟩|⟨BK,⟨he,j⟩|⟨he,⟨i1,j⟩|⟨i1,⟨i2,j⟩|⟨i2,j⟩⟩⟩⟩⟩|⟨Dl,⟨i1,j⟩|⟨i1,⟨i2,i3,j⟩|⟨i2,i3,⟨i4,j⟩|⟨i4,⟨i5,j⟩|⟨i5,⟨nI,j⟩|⟨nI,⟨hT,j⟩|⟨kv,c,hT,j⟩⟩⟩⟩⟩⟩⟩)
  all_goals
   first
    |(rw[show kK f 6=kK f 6 from lc]at j;have HC:=Hd (HA.o 6 (by decide));have M:=KU)
    |(have HC:=Hd (HA.o 5 (by decide));have M:=vW)
   have sJ:=Hd j;try rw[nI]at O
   try replace hT:=Hd hT
   clear j ho gX;repeat
    first|go_quiet (fail)|(go_wp2;go_quiet (fail))
    have D:=Hd (D.drewN nq);generalize V.drewN nq=V at D|-;obtain⟨k0,k1,k2,k3,k4,q0,q1,m0⟩:=D.cells z.o;try obtain⟨s0,s1,s2,s3,sf⟩:=(O.o D.p).cells
   go_wp2_with (first|(go_at_call 102;refine(HC.o _).mono ?_;rw[M.o];rintro e w10 ⟨rfl,nZ⟩;have N:=Hd nZ;clear nZ)|(go_at_call 103;refine(HT.o nI Dl D.p).mono ?_;unfold Jf;rw[hT.out];rintro e w9 ⟨rfl,Z,hB⟩;obtain⟨_,z1,_,_,zf⟩:=Z.cells;have H9:=Hd (ac Z hB);have Uc:=Hd (ac (jO.step Z (x.next+1)).1 (hB.trans (jO.step Z (x.next+1)).2));obtain⟨y0,y1,y2,y3,y4⟩:=FK.out D.o Uc.2;simp only[Int.natCast_add,Int.natCast_one]at y0 y1 y2 y3 y4;clear Z hB))
   try
    change aG _ (aK 12 NY η) _ _ _;refine jkc lc D.o H.o E.o J.o z.o lc lc lc ?_;intro y w9 y8 H9 k0 k1 k2 k3 k4;rw[Y1,y8];go_wp2_with (go_at_call 102;refine(HC.o _).mono ?_;rw[M.o];rintro e w10 ⟨rfl,nZ⟩;have N:=Hd nZ;clear nZ)
   go_ret2;first
    |exact D.same H.o (But.refl _ _) sJ.o lc
    |exact D.same H.o N.o sJ.o (by rw[M.o];rfl)
    |rw[sJ.o]
  iterate 2
   .obtain⟨⟨A',T,U⟩,e3⟩:=H9.o;exact⟨by rw[M.o];rfl,A',T,U.idle N.o,e3.trans (N.mono λ_ x=>x.elim)⟩
  .obtain⟨T,U⟩:=R.out D.p H9.2 H9.1;exact⟨lc,A,lc,T.mono λ_ h=>.inl h,(D.b.mono λ_ x=>x.elim).trans U⟩
  .obtain⟨T,U⟩:=R.out D.p Uc.2 Uc.1;exact⟨by rw[M.o];rfl,A,lc,(T.idle N.o).mono λ_ h=>.inl h,((D.b.mono λ_ x=>x.elim).trans U).trans (N.mono λ_ x=>x.elim)⟩
end
def rsK:fo Sg->fo Sg
 |some x=>if x.done then ζ x else ε
 |none=>ε
def rsF (sg:dw->dw->fo Sg) (h:dw):dw->dw->fo Sg:=λa b=>if a=h then rsK (sg a b)else sg a b
def rsE (s:St) (h:gF):gF:=if h<0\/s.hosts<=h then 1 else 0
def rsR (s:St) (h:gF):St:=if h<0\/s.hosts<=h then s else{s with sg:=rsF s.sg h.toNat}
section
variable {w w':ae} {F:dw->Prop} {A:PA} {s:St}
theorem tZ.congr {sg sg':dw->dw->fo Sg} (p:tZ w F A sg) (e:∀a b,a<4->b<4->sg' a b=sg a b):tZ w F A sg':=by refine⟨p.f,?_,λa b x j y N=>p.e a b x j y (by rw[<-e a b j y];exact N),λa b c d j y z C I J M=>p.i a b c d j y z C (by rw[<-e a b j y];exact I) (by rw[<-e c d z C];exact J) M,λa b j y O=>p.n a b j y (by rw[<-e a b j y];exact O)⟩;obtain⟨n,D,R,S,T⟩:=p.m;refine⟨n,D,R,λa b j y=>by rw[S a b j y];simp only[e a b j y],λP hk=>?_⟩;obtain⟨a,b,j,y,E,H⟩:=T P hk;exact⟨a,b,j,y,E,by simp only[e a b j y];exact H⟩
theorem zx.jct {sg':dw->dw->fo Sg} (p:zx w F A s) (e:∀a b,a<4->b<4->sg' a b=s.sg a b):zx w F A {s with sg:=sg'}:=⟨p.cl,p.db,p.mb,p.mbi,p.mv,p.mpi,p.cvi,tZ.congr p.yc e,p.smb⟩
theorem zx.jc2 (p:zx w F A s) (S:a<4) (T:b<4) (I:But (· =A.sm) w w') (P:lH w' A.sm λx y=>(vz s.sg a b ε x y).map λ_=>(A.sP x y).1):zx w' F A {s with sg:=vz s.sg a b ε}:=by
 have sub:∀{x y:dw} {v:Sg},vz s.sg a b ε x y=ζ v->s.sg x y=ζ v:=λ{x y v} h=>by by_cases e:x=a/\y=b;{obtain⟨rfl,rfl⟩:=e;rw[xq]at h;cases h};rwa [jy e]at h
 have E:∀{x y:dw},(vz s.sg a b ε x y).isSome=η->(s.sg x y).isSome=η:=λh=>by obtain⟨v,D⟩:=au.1 h;rw[sub D];rfl
 refine p.DW (sP':=A.sP) I (λ_ h=>h) (λq e _=>.inr (.inl e)) ⟨p.yc.f,P,λx y v z C D=>?_,λx y c d z C N O H j M=>p.yc.i x y c d z C N O (E H) (E j) M,λx y z C R=>p.yc.n x y z C (E R)⟩;obtain⟨H,j⟩:=p.yc.e x y v z C (sub D);refine⟨H,j.block λq J=>I.keep q ?_ ?_⟩;{rcases J with rfl|rfl|rfl;{exact j.lt.1};{exact j.lt.2.1};exact j.lt.2.2};rcases J with rfl|rfl|rfl;{exact p.yc.m.ty j.s};{exact p.yc.m.ty j.d};exact λe=>(p.yc.n x y z C (by rw[sub D];rfl)).1 e.symm
structure RgW (w0:ae) (F:dw->Prop) (A:PA) (s:St) (h r:dw) (left:Lit->jb) (cnt:dw) (cur:fo (dw×dw)) (sg':dw->dw->fo Sg) (D:aQ ky) (w:ae):Prop where
 p:zx w (λz=>F z/\z<w0.heap.size) A {s with sg:=sg'}
 g:w.ranges prog 154 Rp A.sm r 16 D left cnt
 d:∀a b,a<4->b<4->D.atKey (pk a b) (pd ε)=pd ((sg' a b).map λ_=>(A.sP a b).1)
 e:∀kl,Maps.has D kl=η->∃a b,a<4/\b<4/\kl=pk a b/\(sg' a b).isSome=η
 l:∀a b,a<4->b<4->left (pk a b)=η->sg' a b=s.sg a b
 m:∀a b,a<4->b<4->left (pk a b)=θ->cur≠ζ (a,b)->sg' a b=rsF s.sg h a b
 c:∀a b,cur=ζ (a,b)->a<4/\b<4/\sg' a b=s.sg a b/\left (pk a b)=θ
 b:But (· =A.sm) w0 w
theorem RgW.start (p:zx w0 F A s) {D:aQ ky} (H:∀a b,a<4->b<4->D.atKey (pk a b) (pd ε)=pd ((s.sg a b).map λ_=>(A.sP a b).1)) (R:∀z,Maps.has D z=η->∃a b,a<4/\b<4/\z=pk a b/\((s.sg a b).map λ_=>(A.sP a b).1).isSome=η)
  (P:w1.ranges prog 154 Rp A.sm w0.heap.size 16 D (Maps.has D) (Maps.size D)) (y:w0.grownBy w1 ε):RgW w0 F A s h w0.heap.size (Maps.has D) (Maps.size D) ε s.sg D w1:=by
 have j:But (λ_=>iO) w0 w1:=⟨y.size,λi N _=>y.block i N (by simp),y.os,y.output⟩
 refine⟨p.lts.idle j,P,H,λz hk=>?_,λ_ _ _ _ _=>lc,λa b E j O _=>?_,λa b e=>(by cases e),j.mono λ_ x=>x.elim⟩;{obtain⟨a,b,E,j,I,J⟩:=R z hk;exact⟨a,b,E,j,I,by simpa using J⟩}
 .have C:=H a b E j;rw[atKey_of_not_has O]at C;have M:s.sg a b=ε:=by
   cases e:s.sg a b with
   |none=>rfl
   |some x=>rw[e]at C;simp[pd]at C
  unfold rsF;split;{rw[M];rfl};rfl
theorem RgW.next {cnt:dw} {left:Lit->jb} {sg':dw->dw->fo Sg} {D:aQ ky} {x c:ai} {I:Lit} {y:aQ ky×je MemPlace} (q:RgW w0 F A s h r left cnt ε sg' D w) (lQ:keyOf prog 154 x=ζ I) (rz:left I=η) (Z:Rp c=ζ y) (S:∀zd,D.atKey I zd=y.1)
  (T:w1.ranges prog 154 Rp A.sm r 16 D (λz=>left z&&!z.sameKey I) uT) (J:w.grownBy w1 (ζ r)) (hr:w0.heap.size<=r):
  ∃a b u,a<4/\b<4/\s.sg a b=ζ u/\x=pkV a b/\c=ξ (ζ ⟨(A.sP a b).1,0,ε⟩)/\RgW w0 F A s h r (λz=>left z&&!z.sameKey I) uT (ζ (a,b)) sg' D w1:=by
 obtain⟨a,b,j,C,rfl,O⟩:=q.e I (has_true_of_atKey S);have U:x=pkV a b:=zY.inj lQ (Cw j C);obtain⟨u,N⟩:=au.1 O;have R:s.sg a b=ζ u:=by rw[<-q.l a b j C rz,N]
 have V:y.1=pd (ζ (A.sP a b).1):=by rw[<-S (pd ε),q.d a b j C,N];rfl
 have Y:c=ptr (ζ (A.sP a b).1):=Zw (ps:=y.2) (by rw[Z,<-V]);have sk:∀{c d:dw},c<4->d<4->((pk c d).sameKey (pk a b)=η↔(c=a/\d=b)):=λ{c d} E H=>by rw[WideAt.sameKey_iff (Iz j C)];exact⟨λe=>IA E H j C e,λe=>by rw[e.1,e.2]⟩
 refine⟨a,b,u,j,C,R,U,Y,q.p.frame λz O=>J.block z (xll O.2 q.b.size) (by rintro⟨⟩;omega),T,q.d,q.e,λc d E H hl=>q.l c d E H (by simp only[aA]at hl;exact hl.1),λc d E H hl M=>?_,λc d e=>?_,⟨xlt q.b.size J.size,λi P M=>(J.block i (xll P q.b.size) (by rintro⟨⟩;omega)).trans (q.b.keep i P M),J.os.trans q.b.os,J.output.trans q.b.output⟩⟩;{simp only[aJ,Bool.not_eq_false']at hl;rcases hl with hl|hl;{exact q.m c d E H hl (by simp)};obtain⟨rfl,rfl⟩:=(sk E H).1 hl;exact gU lc M};cases e;refine⟨j,C,by rw[N,R],?_⟩;simp only[aJ,Bool.not_eq_false'];exact .inr (WideAt.sameKey_self (Iz j C))
theorem RgW.kept {cnt:dw} {left:Lit->jb} {cur:fo (dw×dw)} {sg':dw->dw->fo Sg} {D:aQ ky} (q:RgW w0 F A s h r left cnt cur sg' D w) (j:w.grownBy w1 ε):RgW w0 F A s h r left cnt cur sg' D w1:=by
 have y:But (λ_=>iO) w w1:=⟨j.size,λi z _=>j.block i z (by simp),j.os,j.output⟩
 exact⟨q.p.idle y,q.g.kept j (by simp) (by simp),q.d,q.e,q.l,q.m,q.c,q.b.trans (y.mono λ_ x=>x.elim)⟩
theorem RgW.stay {cnt:dw} {left:Lit->jb} {sg':dw->dw->fo Sg} {D:aQ ky} (q:RgW w0 F A s h r left cnt (ζ (a,b)) sg' D w) (e:rsF s.sg h a b=s.sg a b):RgW w0 F A s h r left cnt ε sg' D w:=by refine⟨q.p,q.g,q.d,q.e,q.l,λc d j y z _=>?_,λ_ _ e=>(by cases e),q.b⟩;by_cases e2:ζ (a,b)=ζ (c,d);{cases e2;rw[e];exact(q.c a b lc).2.2.1};exact q.m c d j y z e2
theorem RgW.drop {cnt:dw} {left:Lit->jb} {sg':dw->dw->fo Sg} {D:aQ ky} (q:RgW w0 F A s h r left cnt (ζ (a,b)) sg' D w) (e:rsF s.sg h a b=ε) (S:w1.ranges prog 154 Rp A.sm r 16 (D.del (pk a b)) (λz=>left z&&!z.sameKey (pk a b)) uT) (ht:w.mapTurned w1 A.sm):RgW w0 F A s h r (λz=>left z&&!z.sameKey (pk a b)) uT ε (vz sg' a b ε) (D.del (pk a b)) w1:=by
 obtain⟨N,I,mX,pR⟩:=q.c a b lc;have T:But (· =A.sm) w w1:=by obtain⟨es,ck,iZ,Y,I,rfl⟩:=ht;exact⟨by simp[ChangeMaps.setBlock],λi hi R=>ChangeMaps.heap_setBlock_other I _ R,lc,lc⟩
 have sk:∀{c d:dw},c<4->d<4->¬(c=a/\d=b)->(pk c d).sameKey (pk a b)=θ:=λ{c d} hc O R=>by
  cases E:(pk c d).sameKey (pk a b)with
  |false=>rfl
  |true=>exact gU (IA hc O N I ((WideAt.sameKey_iff (Iz N I)).1 E)) R
 have O:∀x y,x<4->y<4->(D.del (pk a b)).atKey (pk x y) (pd ε)=pd ((vz sg' a b ε x y).map λ_=>(A.sP x y).1):=λx y j C=>by by_cases e2:x=a/\y=b;{obtain⟨rfl,rfl⟩:=e2;rw[xq,Maps.atKey_del_same];rfl};rw[jy e2,Maps.atKey_del_other (λE=>e2 (IA j C N I E)),q.d x y j C]
 have V:∀H,Maps.has (D.del (pk a b)) H=η->∃x y,x<4/\y<4/\H=pk x y/\(vz sg' a b ε x y).isSome=η:=λH M=>by by_cases e2:H=pk a b;{rw[e2,Maps.has_del_same]at M;cases M};rw[Maps.has_del_other e2]at M;obtain⟨x,y,j,C,E,P⟩:=q.e H M;exact⟨x,y,j,C,E,by rw[jy (λU=>e2 (by rw[E,U.1,U.2]))];exact P⟩
 refine⟨zx.jc2 q.p N I T ⟨16,_,S.owns,O,λH M=>?_⟩,S,O,V,λx y j C J=>?_,λx y j C J _=>?_,λ_ _ e=>(by cases e),q.b.trans T⟩;{obtain⟨x,y,j,C,E,P⟩:=V H M;exact⟨x,y,j,C,E,by simpa using P⟩}
 .simp only[aA,Bool.not_eq_true']at J;have Z:¬(x=a/\y=b):=by rintro⟨rfl,rfl⟩;rw[WideAt.sameKey_self (Iz j C)]at J;exact gU J.2 (by decide)
  rw[jy Z];exact q.l x y j C J.1
 .by_cases e2:x=a/\y=b;{obtain⟨rfl,rfl⟩:=e2;rw[xq,e]};rw[jy e2];refine q.m x y j C ?_ λE=>e2 (by cases E;exact⟨lc,lc⟩);simpa[sk j C e2]using J
theorem RgW.done {w0:ae} {h r:dw} {left:Lit->jb} {sg':dw->dw->fo Sg} {D:aQ ky} {v:ai} (q:RgW w0 F A s h r left 0 ε sg' D w) (C:∀H,left H=θ) (hF:F A.sm):kD w0 F A v {s with sg:=rsF s.sg h} (ψ v) w:=
 ⟨lc,A,lc,(zx.jct (sg':=rsF s.sg h) q.p λa b j y=>(q.m a b j y (C _) (by simp)).symm).mono λz E=>.inl E.1,q.b.mono λ_ e=>e▸hF⟩
theorem RgW.drew {cnt:dw} {left:Lit->jb} {cur:fo (dw×dw)} {sg':dw->dw->fo Sg} {D:aQ ky} (q:RgW w0 F A s h r left cnt cur sg' D w):RgW w0 F A s h r left cnt cur sg' D w.drew:=by have j:But (λ_=>iO) w w.drew:=il (qy _ _).drew;exact⟨q.p.idle j,q.g,q.d,q.e,q.l,q.m,q.c,q.b.trans (j.mono λ_ x=>x.elim)⟩
theorem RgW.cells {w0:ae} {h r cnt a b:dw} {left:Lit->jb} {sg':dw->dw->fo Sg} {D:aQ ky} {u:Sg} (q:RgW w0 F A s h r left cnt (ζ (a,b)) sg' D w) (E:s.sg a b=ζ u):w.cell? ⟨(A.sP a b).1,3,ε⟩=ζ (χ u.done)/\w.cell? ⟨A.cl,13,ε⟩=ζ (.map (ζ A.sm)):=by obtain⟨z,C,j,_⟩:=q.c a b lc;have H:({s with sg:=sg'}:St).sg a b=ζ u:=j.trans E;obtain⟨_,_,_,y,_⟩:=(zx.sgc q.p z C H).cells;exact⟨y,(q.p.cells 13 _ lc).1⟩
theorem RgW.drop' {cnt:dw} {left:Lit->jb} {sg':dw->dw->fo Sg} {D:aQ ky} {j:Lit} (q:RgW w0 F A s h r left cnt (ζ (a,b)) sg' D w) (e:rsF s.sg h a b=ε) (ek:j=pk a b) (y:w1.ranges prog 154 Rp A.sm r 16 (D.del j) (λz=>left z&&!z.sameKey j) uT) (C:w.mapTurned w1 A.sm):RgW w0 F A s h r (λz=>left z&&!z.sameKey j) uT ε (vz sg' a b ε) (D.del j) w1:=by subst ek;exact q.drop e y C
theorem qkc {H:Type} {P:Program} {j:kw Oper} {o:Oper} {a:Act} {w:ae} {Q:Exit->Act->ae->Prop} {E:Prop}
  (O:o.guard=ε) (m x:Operand) (t k:aP) (J:o.op=Op.call {callee:=Callee.builtin Builtin.delete,args:=#[m,x],argTypes:=#[t,k]})
  (e:aP) (I:Keyed P k) (T:P.underlying t=ζ (.map k e)) (R:ai->fo (aQ H×je MemPlace)) (b r n:dw) (D:aQ H) (left:Lit->jb) (cnt:dw)
  (S:a.eval m=.map (ζ b)) (h:w.ranges P k R b r n D left cnt) (key:ai) (C:Lit) (V:a.eval x=key) (Y:keyOf P k key=ζ C)
  (N:∀w' y,w'.ranges P k R b r n (D.del C) (λz=>left z&&!z.sameKey C) y->y<=cnt->w.mapTurned w' b->K (a.put o.dst (ο #[])) w'):
  if Region.wanted o (yielded j a.tmps)=η then Oper.wp P o a w K Q else E:=by
 have U:Region.wanted o (yielded j a.tmps)=η:=by simp[Region.wanted,O]
 rw[gI U];obtain⟨w',y,M,Z,r2,r3⟩:=h.drop I T Y o.type;unfold Oper.wp;simp[execOp,J,resolve,invoke,builtin,S,V,M,Result.andThen];exact N w' y Z r2 r3
theorem qx4 (p:zx w F A s) (Hg:s.hosts<=4) (h:gF) (Dm: -9223372036854775808<=h/\h<=9223372036854775807):
  aE prog 49 #[ξ (ζ ⟨A.cl,0,ε⟩),σ υ h] w (kD w F A (σ υ (rsE s h)) (rsR s h)):=by
 have c0:w.cell? ⟨A.cl,0,ε⟩=ζ (σ υ s.hosts):=(p.cells 0 _ lc).1;have E:w.cell? ⟨A.cl,13,ε⟩=ζ (.map (ζ A.sm)):=(p.cells 13 _ lc).1;have H:=Hd p;unfold rsR rsE;by_cases qA:h<0\/s.hosts<=h;{rw[gI qA,gI qA];clear p;rcases bj h 0 with h2|h2;{have g1:ν (h<0)=η:=xdt h2;go_enter func49,ntmps49;go_wp2;go_ret;exact .idle H.o (qy _ _)};have g1:ν (h<0)=θ:=xdf (by omega);have g2:ν ((s.hosts:gF)<=h)=η:=xdt (by omega);go_enter func49,ntmps49;go_wp2;go_ret;exact .idle H.o (qy _ _)};rw[eD qA,eD qA];obtain⟨h,rfl⟩:∃n:dw,h=n:=⟨h.toNat,by omega⟩
 rw[ah];have g1:ν ((h:gF)<0)=θ:=xdf (by omega);have g2:ν (s.hosts<=h)=θ:=xdf (by omega);obtain⟨D0,ho,m2,m3⟩:=p.yc.m.few;have HM:=Hd (ac m2 m3);clear p m2 m3;go_enter func49,ntmps49;go_wp2_with (first
  |(at_range;refine wpList_range_own _ lc _ 76 lc 154 155 zY underlying76 Rp A.sm 16 D0 lc ho ?_;intro w1 M lJ iE)
  |go_in)
 go_frame;clear c0 E ho;go_loopw [6] (λ_ wr=>∃(left:Lit->jb) (cnt:dw) (J:dw->dw->fo Sg) (D:aQ ky),wr.ranges prog 154 Rp A.sm w.heap.size 16 D left cnt/\Hid (RgW w F A s h w.heap.size left cnt ε J D wr)) (λ_ wr=>wr.rangeLeft A.sm w.heap.size);case atStart=>exact⟨_,_,_,_,M,Hd (RgW.start H.o HM.1 HM.2 M lJ)⟩
 case round=>
  obtain⟨left,cnt,J,D,T,HQ⟩:=hrel;go_wp2_with (first
   |(at_next;refine wpList_next_ranges _ lc _ lc 154 zY Rp (λv:ai=>v) (λv:ai=>v) (λkey P _=>⟨key,lc⟩) (λv y _=>⟨v,lc⟩) A.sm w.heap.size 16 _ _ _ lc T ?_ ?_)
   |go_in)
  .intro BN hl0;subst BN;have HD:=Hd (HQ.done (v:=σ υ 0) hl0 H.yc.f);go_wp2;go_ret;exact HD.o
  .intro x c P y yp w1 uT R rz hv sF M eZ lJ iE Hr;obtain⟨a,b,u,ha,hb,hu,e1,I,q1⟩:=HQ.next (y:=(y,yp)) R rz hv sF M lJ (jg _);subst e1 I;have j:=Hd (q1.kept (World.grownBy_alloc w1 (ω #[σ υ a,σ υ b] 154) ε));have HK:Hid (keyOf prog 154 (Θ #[σ υ a,σ υ b])=ζ P):=Hd R;have U:Hid (P=pk a b):=Hd (by
    have:=Cw ha hb;rw[R]at this
    injection this)
   have V:=Hd hu;clear iE;have k0:(w1.alloc (ω #[σ υ a,σ υ b] 154)).cell? ⟨w1.heap.size,0,ε⟩=ζ (σ υ a):=by go_simp
   have k1:(w1.alloc (ω #[σ υ a,σ υ b] 154)).cell? ⟨w1.heap.size,1,ε⟩=ζ (σ υ b):=by go_simp
   obtain⟨W,hW⟩:∃W,w1.alloc (ω #[σ υ a,σ υ b] 154)=W:=⟨_,lc⟩
   rw[hW]at j k0 k1;obtain⟨s3,E⟩:=j.cells V.o;have OU:=Hd eZ;have C:=Hd T;clear R rz hv sF M q1 hu eZ T;unfold pkV at Hr;by_cases hx:a=h/\u.done=θ
   .obtain⟨uj,qY⟩:=hx;subst uj;have O:Hid (rsF s.sg a a b=ε):=Hd (by unfold rsF;rw[gI lc,V.o];simp[rsK,qY]);rw[qY]at s3;have i1:((a:gF)==a)=η/\(a==a)=η/\ν (a=a)=η:=by simp
    go_wp2;clear hW;go_region_law (refine qkc lc _ _ 76 154 lc 155 zY underlying76 Rp A.sm w.heap.size 16 _ _ _ lc (by first|exact j.g|exact j.drew.g) _ P lc HK.o ?_;intro w2 cnt2 N z S;have HE:=Hd (ac N (ac z S));clear N z S);all_goals
     obtain⟨N,z,S⟩:=HE.o;have Y:=Hd (RgW.drop' (by first|exact j.o|exact j.drew) O.o U.o N S);go_wp2;go_roundw;case rel=>exact⟨_,_,_,_,Y.g,Y⟩
     case measure=>rw[Y.g.left_eq,C.left_eq];exact Nat.lt_of_le_of_lt z OU.o
   .have O:Hid (rsF s.sg h a b=s.sg a b):=Hd (by
     unfold rsF;by_cases e:a=h
     .rw[gI e,V.o];have Z:u.done=η:=by
       cases I:u.done with
       |true=>rfl
       |false=>exact gU ⟨e,I⟩ hx
      simp[rsK,Z]
     .rw[eD e])
    have kS:(((a:gF)==h)=η/\(a==h)=η/\ν (a=h)=η)/\u.done=η\/(((a:gF)==h)=θ/\(a==h)=θ/\ν (a=h)=θ):=by
     by_cases e:a=h
     .refine .inl ⟨by simp[e],?_⟩;cases I:u.done with
      |true=>rfl
      |false=>exact gU ⟨e,I⟩ hx
     .exact .inr (by simp;omega)
    clear hx;rcases kS with⟨i1,Z⟩|i1;all_goals
     first|rw[Z]at s3|skip
     go_wp2;go_roundw;case rel=>exact⟨_,_,_,_,(j.stay O.o).g,Hd (j.stay O.o)⟩
     case measure=>rw[j.g.left_eq,C.left_eq];exact OU.o
end
end
section
open Go.Proofs.YtkpekiajdlolnabGreat
def nfL (m:Mv):Bs:=if m.n=0 then[]else if m.ps≠[]then(l7 m.ps).1 else if m.cs≠[]then(l6 m.cs).1 else[]
def nfK (m:Mv):dw:=if m.n=0 then 1 else if m.ps≠[]then 2 else if m.cs≠[]then 3 else 4
def nfP (m:Mv):dw:=if m.n=0 then m.parts else if m.ps≠[]then(l7 m.ps).2 else if m.cs≠[]then(l6 m.cs).2 else m.parts
def nfM (n:dw) (m:Mv):Mv:={m with kind:=nfK m,sent:=Fr.bytes ⟨nfK m,n,m.id,m.n,nfL m⟩,parts:=nfP m,sealed:=m.sealed||nfK m==4}
def nfV (s:St) (k:gF):Bs:=if k<0\/3<k then[]else match s.mv k.toNat with
 |none=>[]
 |some m=>if m.sent.isEmpty then(nfM k.toNat m).sent else m.sent
def nfS (s:St) (k:gF):St:=if k<0\/3<k then s else match s.mv k.toNat with
 |none=>s
 |some m=>if m.sent.isEmpty then{s with mv:=qf s.mv k.toNat (ζ (nfM k.toNat m))}else s
def hoK (s:St) (k:dw) (m:Mv):fo Sg:=match s.sg m.to k with
 |some x=>if x.id=m.id/\x.done=η then ζ x else ε
 |none=>ε
def hoS (s:St) (k:dw) (m:Mv):St:={s with ow:=qf s.ow k m.to,kv:=vv s.kv k (match hoK s k m with|some x=>x.kv|none=>[]),mv:=qf s.mv k ε,sg:=(match hoK s k m with|some _=>vz s.sg m.to k ε|none=>s.sg),ep:=s.ep+1}
def akM (m:Mv):Mv:=if m.kind=2 then{m with sent:=[],ps:=m.ps.drop m.parts,n:=m.n+1}else if m.kind=3 then{m with sent:=[],cs:=m.cs.drop m.parts,n:=m.n+1}else{m with sent:=[],n:=m.n+1}
def akS (s:St) (k:dw) (m:Mv):St:=if m.kind=4 then hoS s k m else{s with mv:=qf s.mv k (ζ (akM m))}
def rpF (s:St) (h:dw) (f:Fr):St:=if f.qb<4/\f.load=[]then match s.mv f.qb with
 |none=>s
 |some m=>if m.fr=h/\m.id=f.id then(if f.kind=6 then bgS s f.qb m.to else if f.kind=5/\m.sent≠[]/\f.n=m.n then akS s f.qb m else s)else s
 else s
def rpE (s:St) (h:gF):gF:=if h<0\/s.hosts<=h then 1 else 0
def rpS (s:St) (h:gF) (u:Bs):St:=if h<0\/s.hosts<=h then s else match jY u with
 |none=>s
 |some f=>rpF s h.toNat f
section
variable {s:St}
theorem MW (L:dw->KV) (n:dw) (x:KV):vv L n x n=x:=by unfold vv;rw[gI lc]
theorem Jj (L:dw->KV) (x:KV) (h:i≠n):vv L n x i=L i:=by unfold vv;rw[eD h]
end
end
section
open Go.Conc Go.ConcN Go.RowKit Go.Maps Go.Conc.Lib Go Sim
structure xK (m:Mv):Prop where
 id:m.id<4611686018427387904
 n:m.n<4611686018427387904
 ps:m.ps.length<=16777216
 cs:m.cs.length<=16777216
 psf:∀p∈m.ps,p.1.length<=8/\p.2.length<=12
 csf:∀c∈m.cs,c.k.length<=8/\c.v.length<=12
theorem Xy {l:KV} (E:l.length<=16777216) (hk:∀p∈l,p.1.length<=8/\p.2.length<=12):(l7 l).1.length<=1000/\(l7 l).2<=l.length:=by obtain⟨j,D,y,_,z⟩:=Nl l [] [] 0;have C:=z (by decide) (λ_=>lc) (by decide) hk;unfold l7;rw[y];have:=vo 8 (0+j) (by omega);simp only[al];simp only[al]at C;exact⟨by omega,by omega⟩
theorem Xv {l:je Chg} (E:l.length<=16777216) (hk:∀p∈l,p.k.length<=8/\p.v.length<=12):(l6 l).1.length<=1000/\(l6 l).2<=l.length:=by obtain⟨j,D,y,_,z⟩:=Nk l [] 0;have C:=z (by decide) (λ_=>lc) hk;unfold l6;rw[y];have:=vo 8 (0+j) (by omega);simp only[al];simp only[al]at C;exact⟨by omega,by omega⟩
section
variable {w w' w0:ae} {F:dw->Prop} {A:PA} {s:St} {n x:dw} {pv cv:ai} {ld:bn} {m:Mv}
theorem nV.src {v:ai} {l:KV} (h:nV w v l):NC w v l:=by obtain⟨E,z,rfl,_⟩:=jo.shape h;refine⟨E,z,lc,λi p y=>?_⟩;rcases h.2 with⟨e,H⟩|⟨g,off,cap,cur,e,I⟩;{have:=(aq.1 y).1;omega};have j:=jo.cells (g:=g) (off:=off) (m:=l.length) (cap:=cap) (e▸h);cases e;obtain⟨C,D⟩:=flat_get l i p y;exact⟨g,off,lc,j _ _ C,by have:=j _ _ D;rwa [<-Nat.add_assoc]at this⟩
theorem sV.src {v:ai} {l:je Chg} (h:sV w v l):JL w v l:=by obtain⟨H,z,rfl,_⟩:=jo.shape h;refine⟨H,z,lc,λi p y=>?_⟩;rcases h.2 with⟨e,I⟩|⟨g,off,cap,cur,e,J⟩;{have:=(aq.1 y).1;omega};have j:=jo.cells (g:=g) (off:=off) (m:=l.length) (cap:=cap) (e▸h);cases e;obtain⟨C,D,E⟩:=Jp l i p y;exact⟨g,off,lc,j _ _ C,by have:=j _ _ D;rwa [<-Nat.add_assoc]at this,by have:=j _ _ E;rwa [<-Nat.add_assoc]at this⟩
structure NfW (w0:ae) (x n:dw) (pv cv:ai) (ld:bn) (m:Mv) (w:ae):Prop where
 b:w.heap[x]?=ζ (.cells (qw n pv cv ld m) 135 (0,0))
 but:But (· =x) w0 w
theorem NfW.below (h:NfW w0 x n pv cv ld m w) (j:aC w.heap.size w w'):NfW w0 x n pv cv ld m w':=⟨(j.block _ (j5 h.b).1).trans h.b,h.but.trans (il j)⟩
theorem NfW.store (h:NfW w0 x n pv cv ld m w) (i:dw) (v:ai) (ld':bn) (m':Mv) (e:(qw n pv cv ld m).setIfInBounds i v=qw n pv cv ld' m'):NfW w0 x n pv cv ld' m' (w.setCell ⟨x,i,ε⟩ v):=by have k:=xhs w x i _ _ v h.b;exact⟨k.trans (by rw[e]),But.setCell (B:=(· =x)) h.but lc _ _⟩
theorem NfW.cell (h:NfW w0 x n pv cv ld m w) (i:dw) (v:ai) (e:(qw n pv cv ld m)[i]?=ζ v):w.cell? ⟨x,i,ε⟩=ζ v:=by simp[aa,h.b,e]
theorem NfW.free (h:NfW w0 x n pv cv ld m w) (i:dw):w.frozen? ⟨x,i,ε⟩=θ:=by simp[ay,h.b]
theorem Gi {k:gF} (hk:k<0\/3<k):nfV s k=[]/\nxE s k=8/\nfS s k=s:=⟨by unfold nfV;rw[gI hk],by unfold nxE;rw[gI hk],by unfold nfS;rw[gI hk]⟩
theorem Gq (y:n<4) (j:s.mv n=ε):nfV s n=[]/\nxE s n=11/\nfS s n=s:=⟨by unfold nfV;rw[eD (by omega),ah,j],by unfold nxE;rw[eD (by omega),ah,j],by unfold nfS;rw[eD (by omega),ah,j]⟩
theorem Gz (y:n<4) {m:Mv} (j:s.mv n=ζ m) (h:m.sent.isEmpty=θ):nfV s n=m.sent/\nxE s n=0/\nfS s n=s:=⟨by unfold nfV;rw[eD (by omega),ah,j];simp[h],by unfold nxE;rw[eD (by omega),ah,j],by unfold nfS;rw[eD (by omega),ah,j];simp[h]⟩
theorem LG (y:n<4) {m:Mv} (j:s.mv n=ζ m) (h:m.sent.isEmpty=η):nfV s n=(nfM n m).sent/\nxE s n=0/\nfS s n={s with mv:=qf s.mv n (ζ (nfM n m))}:=⟨by unfold nfV;rw[eD (by omega),ah,j];simp[h],by unfold nxE;rw[eD (by omega),ah,j],by unfold nfS;rw[eD (by omega),ah,j];simp[h]⟩
theorem NfW.done {kd N:dw} {ld:bn} {m m':Mv} (h:NfW w0 x n (A.pv n) (A.cv n) ld m' w) (H:zx w0 F A s) (E:n<4) (D:s.mv n=ζ m) (I:A.mp n=ζ x) (hF:F x) (J:m.n=N) (j:nfM n m={m' with sent:=Fr.bytes ⟨kd,n,m.id,N,ld.data.toList⟩}) (z:m'.ps=m.ps) (C:m'.cs=m.cs):
  zx (w.setCell ⟨x,10,ε⟩ (Γ (frB kd n m.id N ld))) F {A with ld:=qf A.ld n ld} {s with mv:=qf s.mv n (ζ (nfM n m))}/\But F w0 (w.setCell ⟨x,10,ε⟩ (Γ (frB kd n m.id N ld))):=by
 have k:=xhs w x 10 _ _ (Γ (frB kd n m.id N ld)) h.b;have y:=But.setCell (B:=(· =x)) h.but lc 10 (Γ (frB kd n m.id N ld));refine⟨H.mvb E D I y ?_ (by rw[j];exact z) (by rw[j];exact C),y.mono λb e=>e▸hF⟩;rw[k,j];rfl
theorem jbs (h:zx w F A s) (k:gF) (hk:k<0\/3<k) (j: -9223372036854775808<=k/\k<=9223372036854775807):
  aE prog 46 #[ξ (ζ ⟨A.cl,0,ε⟩),σ υ k] w (kD w F A (ο #[sv (nfV s k),σ υ (nxE s k)]) (nfS s k)):=by
 rw[(Gi hk).1,(Gi hk).2.1,(Gi hk).2.2];have H:=Hd h;clear h;go_enter func46,ntmps46;go_wp2_with (go_at_call 60;refine(XT k hk j A.cl).mono ?_;rintro e w' ⟨rfl,rfl⟩)
 go_ret2;exact .idle H.o (qy _ _)
theorem jbt (h:zx w F A s) (y:n<4) (j:s.mv n=ε):
  aE prog 46 #[ξ (ζ ⟨A.cl,0,ε⟩),σ υ n] w (kD w F A (ο #[sv (nfV s n),σ υ (nxE s n)]) (nfS s n)):=by
 have z:=Nc h y;rw[(Gq y j).1,(Gq y j).2.1,(Gq y j).2.2];have H:=Hd h;rw[j]at z;clear h j;go_enter func46,ntmps46;go_wp2_with (go_at_call 60;refine z.mono ?_;rintro e w' ⟨rfl,rfl⟩)
 go_ret2;exact .idle H.o (qy _ _)
theorem jbu (h:zx w F A s) (j:n<4) (y:s.mv n=ζ m) (z:m.sent.isEmpty=θ):
  aE prog 46 #[ξ (ζ ⟨A.cl,0,ε⟩),σ υ n] w (kD w F A (ο #[sv (nfV s n),σ υ (nxE s n)]) (nfS s n)):=by
 have I:=Nc h j;have E:=h.mv n j;have D:=(h.part n j).v;rw[y]at E I;obtain⟨x,J,O,M,P,R,_⟩:=E;rw[J]at D;replace D:w.cell? ⟨A.cl,1+n*3+2,ε⟩=ζ (ξ (ζ ⟨x,0,ε⟩)):=D;obtain⟨sb,C⟩:∃b:bn,b.data.toList=m.sent:=⟨⟨m.sent.toArray⟩,by simp⟩
 have S:w.cell? ⟨x,10,ε⟩=ζ (Γ sb):=by rw[<-qx C];simp[aa,M,qw]
 have N:sb.toList.isEmpty=m.sent.isEmpty:=by rw[aM,C]
 rw[(Gz j y z).1,(Gz j y z).2.1,(Gz j y z).2.2,qx C];rw[z]at N;have H:=Hd h;clear h y J O M P R z C;go_enter func46,ntmps46;go_wp2_with (go_at_call 60;refine I.mono ?_;rintro e w' ⟨rfl,rfl⟩)
 go_ret2;exact .idle H.o (qy _ _)
theorem q63 (h:zx w F A s) (V:n<4) (fe:s.mv n=ζ m) (gT:m.sent.isEmpty=η) (L:xK m):
  aE prog 46 #[ξ (ζ ⟨A.cl,0,ε⟩),σ υ n] w (kD w F A (ο #[sv (nfV s n),σ υ (nxE s n)]) (nfS s n)):=by
 have kE:=Nc h V;have hm:=h.mv n V;have cV:=(h.part n V).v;rw[fe]at hm kE;obtain⟨x,z1,z2,C,Y,Z,_⟩:=hm;rw[z1]at cV;replace cV:w.cell? ⟨A.cl,1+n*3+2,ε⟩=ζ (ξ (ζ ⟨x,0,ε⟩)):=cV;obtain⟨sb,gM⟩:∃b:bn,b.data.toList=m.sent:=⟨⟨m.sent.toArray⟩,by simp⟩
 have OG:w.cell? ⟨x,10,ε⟩=ζ (Γ sb):=by rw[<-qx gM];simp[aa,C,qw]
 have gX:sb.toList.isEmpty=m.sent.isEmpty:=by rw[aM,gM]
 have nm:=λ(b:dw) (e:b=x) (v:ai) (ty:aP) (JZ:ty≠135) (hv:∀q,v.ownBlock=ζ q->∃c,w.heap[q]?=ζ (.cells c ty (0,0))) (hq:v.ownBlock=ζ b)=>(show iO by
  obtain⟨c,hc⟩:=hv b hq;rw[e,C]at hc
  exact JZ (jc hc).symm)
 have FI:Hid (∀W,But (· =x) w W->NC W (A.pv n) m.ps):=Hd λW hW=>nV.src (Y.block λb hb=>hW.keep b (jo.lt Y hb) λe=>nm b e _ _ (by decide) (λq hq=>jo.ty Y hq) hb);have Ua:Hid (∀W,But (· =x) w W->JL W (A.cv n) m.cs):=Hd λW hW=>sV.src (Z.block λb hb=>hW.keep b (jo.lt Z hb) λe=>nm b e _ _ (by decide) (λq hq=>jo.ty Z hq) hb);obtain⟨sp,pp,q3,_⟩:=jo.shape Y;obtain⟨sc,pc,q4,_⟩:=jo.shape Z;have c3:w.cell? ⟨x,3,ε⟩=ζ (.slice sp m.ps.length pp):=by rw[<-q3];simp[aa,C,qw]
 have c4:w.cell? ⟨x,4,ε⟩=ζ (.slice sc m.cs.length pc):=by rw[<-q4];simp[aa,C,qw]
 obtain⟨N,I⟩:∃N,m.n=N:=⟨_,lc⟩
 have c8:w.cell? ⟨x,8,ε⟩=ζ (σ υ N):=by rw[<-I];simp[aa,C,qw]
 have c5:w.cell? ⟨x,5,ε⟩=ζ (σ Ξ m.kind):=by simp[aa,C,qw]
 have c6:w.cell? ⟨x,6,ε⟩=ζ (σ υ n):=by simp[aa,C,qw]
 have c7:w.cell? ⟨x,7,ε⟩=ζ (σ υ m.id):=by simp[aa,C,qw]
 have c9:w.cell? ⟨x,9,ε⟩=ζ (Γ (A.ld n)):=by simp[aa,C,qw]
 have c12:w.cell? ⟨x,12,ε⟩=ζ (χ m.sealed):=by simp[aa,C,qw]
 have fr:∀j,w.frozen? ⟨x,j,ε⟩=θ:=λj=>by simp[ay,C]
 rw[gT]at gX;have HE:=Hd (LG V fe gT);have H:=Hd h;have U:=Hd (ac z1 z2);have lN:=Hd fe;have P:=Hd L;have HS:=Hd gM;have FJ:=Hd I;have N0:Hid (NfW w x n (A.pv n) (A.cv n) (A.ld n) m w):=Hd ⟨C,But.refl _ _⟩;have HB:Hid (∀(kd:dw) (ld:bn) W,kd<5->ld.size<=1048576->aE prog 75 #[Θ #[σ Ξ kd,σ υ n,σ υ m.id,σ υ N,Γ ld]] W λe w'=>e=ψ (Γ (frB kd n m.id N ld))/\aC W.heap.size W w'):=Hd λkd ld W R h3=>
  Wm kd n m.id N ld (by omega) (by omega) (by have:=P.id;omega) (by have:=P.n;have:=FJ.o;omega) h3
 rw[HE.1,HE.2.1,HE.2.2];by_cases h0:m.n=0
 .have E:nfM n m={({m with kind:=1}:Mv)with sent:=Fr.bytes ⟨1,n,m.id,N,(⟨#[]⟩:bn).data.toList⟩}:=by unfold nfM nfK nfL nfP;simp[h0,<-I]
  have HV:=Hd E;rw[show sv (nfM n m).sent=Γ (frB 1 n m.id N ⟨#[]⟩)from by rw[E];rfl];have S:=Hd ((N0.out.store 5 (σ Ξ 1) (A.ld n) {m with kind:=1} rfl).store 9 (Γ ⟨#[]⟩) ⟨#[]⟩ {m with kind:=1} rfl);have i0:((N:gF)==0)=η:=by rw[<-I,h0];rfl
  clear h fe z1 z2 C Y Z gT gM L nm E I h0;go_enter func46,ntmps46;go_wp2_with (first
   |(go_at_call 60;refine kE.mono ?_;rintro e w' ⟨rfl,rfl⟩)
   |(go_at_call 75;refine(HB.o 1 ⟨#[]⟩ _ (by decide) (by decide)).mono ?_;rintro e w9 ⟨rfl,O⟩;have D:=Hd (S.out.below O);have OE:=D.out.cell 10 (Γ sb) (by rw[<-qx HS.o];rfl);have f10:=D.out.free 10;clear O))
  go_ret2;have M:=Hd (D.out.done H.o V lN.o U.1 U.2 FJ.o HV.o lc lc);exact⟨lc,{A with ld:=qf A.ld n ⟨#[]⟩},lc,M.1.mono λ_ h=>.inl h,M.2⟩
 by_cases R:m.ps=[]
 .by_cases h2:m.cs=[]
  .have E:nfM n m={({m with kind:=4,sealed:=η}:Mv)with sent:=Fr.bytes ⟨4,n,m.id,N,(⟨#[]⟩:bn).data.toList⟩}:=by unfold nfM nfK nfL nfP;simp[h0,R,h2,<-I]
   have HV:=Hd E;rw[show sv (nfM n m).sent=Γ (frB 4 n m.id N ⟨#[]⟩)from by rw[E];rfl];have S:=Hd (((N0.out.store 5 (σ Ξ 4) (A.ld n) {m with kind:=4} rfl).store 9 (Γ ⟨#[]⟩) ⟨#[]⟩ {m with kind:=4} rfl).store 12 (χ η) ⟨#[]⟩ {m with kind:=4,sealed:=η} rfl);have i0:((N:gF)==0)=θ:=by rw[<-I];simp;omega
   have g1:ν (0<m.ps.length)=θ:=by rw[R];rfl
   have g2:ν (0<m.cs.length)=θ:=by rw[h2];rfl
   clear h fe z1 z2 C Y Z gT gM L nm E I h0 R h2;go_enter func46,ntmps46;go_wp2_with (first
    |(go_at_call 60;refine kE.mono ?_;rintro e w' ⟨rfl,rfl⟩)
    |(go_at_call 75;refine(HB.o 4 ⟨#[]⟩ _ (by decide) (by decide)).mono ?_;rintro e w9 ⟨rfl,O⟩;have D:=Hd (S.out.below O);have OE:=D.out.cell 10 (Γ sb) (by rw[<-qx HS.o];rfl);have f10:=D.out.free 10;clear O))
   go_ret2;have M:=Hd (D.out.done H.o V lN.o U.1 U.2 FJ.o HV.o lc lc);exact⟨lc,{A with ld:=qf A.ld n ⟨#[]⟩},lc,M.1.mono λ_ h=>.inl h,M.2⟩
  .obtain⟨y,T⟩:∃y,bsB (l6 m.cs).1=y:=⟨_,lc⟩
   obtain⟨J,Ao⟩:∃J,(l6 m.cs).2=J:=⟨_,lc⟩
   have E:nfM n m={({m with kind:=3,parts:=J}:Mv)with sent:=Fr.bytes ⟨3,n,m.id,N,y.data.toList⟩}:=by unfold nfM nfK nfL nfP;simp[h0,R,h2,<-T,<-Ao,bsB,<-I]
   have HV:=Hd E;rw[show sv (nfM n m).sent=Γ (frB 3 n m.id N y)from by rw[E];rfl];have S:=Hd (N0.out.store 5 (σ Ξ 3) (A.ld n) {m with kind:=3} rfl);have i0:((N:gF)==0)=θ:=by rw[<-I];simp;omega
   have g1:ν (0<m.ps.length)=θ:=by rw[R];rfl
   have g2:ν (0<m.cs.length)=η:=by exact xdt (List.length_pos_iff.2 h2)
   have gK:Hid (y.size<=1048576):=Hd (by have:=(Xv P.cs P.csf).1;rw[<-T,vD];omega);have HC:Hid (∀W,But (· =x) w W->aE prog 74 #[.slice sc m.cs.length pc] W λe w'=>e=ψ (ο #[Γ y,σ υ (J:dw)])/\aC W.heap.size W w'):=Hd λW hW=>by rw[<-T,<-Ao,<-q4];exact jag (Ua.o W hW) P.cs P.csf
   clear h fe z1 z2 C Y Z gT gM L nm E I T Ao h0 R h2;go_enter func46,ntmps46;go_wp2_with (first
    |(go_at_call 60;refine kE.mono ?_;rintro e w' ⟨rfl,rfl⟩)
    |(go_at_call 74;refine(HC.o _ S.out.but).mono ?_;rintro e w2 ⟨rfl,gB⟩;have z:=Hd (S.out.below gB);have a5:=z.out.cell 5 (σ Ξ 3) lc;have a6:=z.out.cell 6 (σ υ n) lc;have a7:=z.out.cell 7 (σ υ m.id) lc;have a8:=z.out.cell 8 (σ υ N) (by rw[<-FJ.o];rfl);have a9:=z.out.cell 9 (Γ (A.ld n)) lc;have tK:=z.out.cell 11 (σ υ m.parts) lc;have af:=z.out.free;have N3:=Hd ((z.out.store 9 (Γ y) y {m with kind:=3} rfl).store 11 (σ υ (J:dw)) y {m with kind:=3,parts:=J} rfl);clear gB)
    |(go_at_call 75;refine(HB.o 3 y _ (by decide) gK.o).mono ?_;rintro e w9 ⟨rfl,O⟩;have D:=Hd (N3.out.below O);have OE:=D.out.cell 10 (Γ sb) (by rw[<-qx HS.o];rfl);have f10:=D.out.free 10;clear O))
   go_ret2;have M:=Hd (D.out.done H.o V lN.o U.1 U.2 FJ.o HV.o lc lc);exact⟨lc,{A with ld:=qf A.ld n y},lc,M.1.mono λ_ h=>.inl h,M.2⟩
 .obtain⟨y,T⟩:∃y,bsB (l7 m.ps).1=y:=⟨_,lc⟩
  obtain⟨J,Ao⟩:∃J,(l7 m.ps).2=J:=⟨_,lc⟩
  have E:nfM n m={({m with kind:=2,parts:=J}:Mv)with sent:=Fr.bytes ⟨2,n,m.id,N,y.data.toList⟩}:=by unfold nfM nfK nfL nfP;simp[h0,R,<-T,<-Ao,bsB,<-I]
  have HV:=Hd E;rw[show sv (nfM n m).sent=Γ (frB 2 n m.id N y)from by rw[E];rfl];have S:=Hd (N0.out.store 5 (σ Ξ 2) (A.ld n) {m with kind:=2} rfl);have i0:((N:gF)==0)=θ:=by rw[<-I];simp;omega
  have g1:ν (0<m.ps.length)=η:=by exact xdt (List.length_pos_iff.2 R)
  have gK:Hid (y.size<=1048576):=Hd (by have:=(Xy P.ps P.psf).1;rw[<-T,vD];omega);have HC:Hid (∀W,But (· =x) w W->aE prog 73 #[.slice sp m.ps.length pp] W λe w'=>e=ψ (ο #[Γ y,σ υ (J:dw)])/\aC W.heap.size W w'):=Hd λW hW=>by rw[<-T,<-Ao,<-q3];exact q98 (FI.o W hW) P.ps P.psf
  clear h fe z1 z2 C Y Z gT gM L nm E I T Ao h0 R;go_enter func46,ntmps46;go_wp2_with (first
   |(go_at_call 60;refine kE.mono ?_;rintro e w' ⟨rfl,rfl⟩)
   |(go_at_call 73;refine(HC.o _ S.out.but).mono ?_;rintro e w2 ⟨rfl,gB⟩;have z:=Hd (S.out.below gB);have a5:=z.out.cell 5 (σ Ξ 2) lc;have a6:=z.out.cell 6 (σ υ n) lc;have a7:=z.out.cell 7 (σ υ m.id) lc;have a8:=z.out.cell 8 (σ υ N) (by rw[<-FJ.o];rfl);have a9:=z.out.cell 9 (Γ (A.ld n)) lc;have tK:=z.out.cell 11 (σ υ m.parts) lc;have af:=z.out.free;have N3:=Hd ((z.out.store 9 (Γ y) y {m with kind:=2} rfl).store 11 (σ υ (J:dw)) y {m with kind:=2,parts:=J} rfl);clear gB)
   |(go_at_call 75;refine(HB.o 2 y _ (by decide) gK.o).mono ?_;rintro e w9 ⟨rfl,O⟩;have D:=Hd (N3.out.below O);have OE:=D.out.cell 10 (Γ sb) (by rw[<-qx HS.o];rfl);have f10:=D.out.free 10;clear O))
  go_ret2;have M:=Hd (D.out.done H.o V lN.o U.1 U.2 FJ.o HV.o lc lc);exact⟨lc,{A with ld:=qf A.ld n y},lc,M.1.mono λ_ h=>.inl h,M.2⟩
theorem q7y (h:zx w F A s) (y:∀i,i<4->∀m,s.mv i=ζ m->xK m) (k:gF) (z: -9223372036854775808<=k/\k<=9223372036854775807):
  aE prog 46 #[ξ (ζ ⟨A.cl,0,ε⟩),σ υ k] w (kD w F A (ο #[sv (nfV s k),σ υ (nxE s k)]) (nfS s k)):=by
 by_cases hk:k<0\/3<k;{exact jbs h k hk z};obtain⟨n,rfl⟩:∃n:dw,k=n:=⟨k.toNat,by omega⟩
 have j:n<4:=by omega
 cases fe:s.mv n with
 |none=>exact jbt h j fe
 |some m=>cases gT:m.sent.isEmpty;{exact jbu h j fe gT};have L:=y n j m fe;exact q63 h j fe gT L
end
section
variable {w w' w0:ae} {F:dw->Prop} {A:PA} {s:St} {n x:dw} {m:Mv}
theorem zx.mvg {pv' cv':ai} (h:zx w F A s) (P:n<4) (fe:s.mv n=ζ m) (N:A.mp n=ζ x) (y:But (· =x) w w') (hx:w'.heap[x]?=ζ (.cells (qw n pv' cv' ld' m') 135 (0,0)))
  (R:nV w pv' m'.ps) (E:sV w cv' m'.cs) (Y:∀b,pv'.ownBlock=ζ b->(A.pv n).ownBlock=ζ b) (S:∀b,cv'.ownBlock=ζ b->(A.cv n).ownBlock=ζ b):
  zx w' F {A with pv:=qf A.pv n pv',cv:=qf A.cv n cv',ld:=qf A.ld n ld'} {s with mv:=qf s.mv n (ζ m')}:=by
 have O:=h.mv n P;rw[fe]at O;obtain⟨g,U,z2,V,z4,z5,z6,z7⟩:=O;rw[N]at U;cases U;have lt:∀{b:dw} {o:Obj},w.heap[b]?=ζ o->b<w.heap.size:=λy=>(j5 y).1;have D:∀(b:dw) (c:kw ai) (ty:aP),w.heap[b]?=ζ (aF c ty (0,0))->ty≠135->w'.heap[b]?=w.heap[b]?:=λb c ty z n1=>y.keep b (lt z) λe=>by rw[e,V]at z;exact n1 (jc z).symm
 have T:∀b,(∃J I,w.heap[b]?=ζ (Obj.map J I))->w'.heap[b]?=w.heap[b]?:=λb ⟨J,I,z⟩=>y.keep b (lt z) λe=>by rw[e,V]at z;cases z
 refine⟨⟨h.cl.1,(D _ _ _ h.cl.2 (by decide)).trans h.cl.2⟩,λi C=>⟨(h.db i C).1,(D _ _ _ (h.db i C).2 (by decide)).trans (h.db i C).2⟩,λi C=>⟨(h.mb i C).1,?_⟩,h.mbi,λi C=>?_,h.mpi,λi j q C hj h1 h2=>?_,h.yc.keep (λb cur ty z ht=>D b cur ty z (by rcases ht with rfl|rfl<;>decide)) (λb z _=>T b z) (λ_ h=>h) lc lc lc,h.smb⟩;{obtain⟨J,I,z,_⟩:=(h.mb i C).2;exact(h.mb i C).2.block (T _ ⟨J,I,z⟩)};{show mM w' F _ i (qf s.mv n _ i);by_cases e:i=n;{subst e;rw[qj];have M:qf A.pv i pv' i=pv':=qj ..;have H:qf A.cv i cv' i=cv':=qj ..;have Z:qf A.ld i ld' i=ld':=qj ..;refine⟨x,N,z2,?_,?_,?_,λb y=>?_,λb y=>?_⟩;{rw[hx];show _=ζ (aF (qw i (qf A.pv i pv' i) (qf A.cv i cv' i) (qf A.ld i ld' i) m') _ _);rw[M,H,Z]};{show nV w' (qf A.pv i pv' i) m'.ps;rw[M];exact R.block λb y=>by obtain⟨c,E⟩:=jo.ty R y;exact D b c _ E (by decide)};{show sV w' (qf A.cv i cv' i) m'.cs;rw[H];exact E.block λb y=>by obtain⟨c,E⟩:=jo.ty E y;exact D b c _ E (by decide)};{replace y:(qf A.pv i pv' i).ownBlock=ζ b:=y;rw[M]at y;exact z6 b (Y b y)};replace y:(qf A.cv i cv' i).ownBlock=ζ b:=y;rw[H]at y;exact z7 b (S b y)};rw[qh _ _ e];exact((h.mv i C).keep (λb c kE z=>y.keep b (lt z) λH=>e (h.mpi i n b C P kE (by rw[N,H]))) (λb c _ y=>D b c _ y (by decide)) (λb c _ y=>D b c _ y (by decide))).same lc (qh _ _ e) (qh _ _ e) (qh _ _ e)}
 .have key:∀i,(qf A.cv n cv' i).ownBlock=ζ q->(A.cv i).ownBlock=ζ q:=λi h=>by by_cases e:i=n;{subst e;rw[qj]at h;exact S q h};rw[qh _ _ e]at h;exact h
  exact h.cvi i j q C hj (key i h1) (key j h2)
def haA (A:PA) (k db mb:dw):PA:={A with db:=qf A.db k db,mb:=qf A.mb k mb,mp:=qf A.mp k ε,cv:=qf A.cv k (Δ ε 0 0)}
def haS (s:St) (k to:dw):St:={s with ow:=qf s.ow k to,kv:=vv s.kv k [],mv:=qf s.mv k ε,ep:=s.ep+1}
theorem zx.hand {db1 mb1:dw} (h:zx w F A s) (hn:n<4) (H:But (· =A.cl) w w') (mG:w'.heap[A.cl]?=ζ (.cells (zm (haA A n db1 mb1) (haS s n to)) 83 (0,0)))
  (wN:w'.heap[db1]?=ζ (ω #[.map (ζ mb1)] 142 (0,0))) (U:zk w' mb1 []) (l1:w.heap.size<=db1) (l2:w.heap.size<=mb1):zx w' (λb=>F b\/w.heap.size<=b) (haA A n db1 mb1) (haS s n to):=by
 have lt:∀{b:dw} {o:Obj},w.heap[b]?=ζ o->b<w.heap.size:=λH=>(j5 H).1;have J:∀(b:dw) (c:kw ai) (ty:aP),w.heap[b]?=ζ (aF c ty (0,0))->ty≠83->w'.heap[b]?=w.heap[b]?:=λb c ty z n1=>H.keep b (lt z) λe=>by rw[e,h.cl.2]at z;exact n1 (jc z).symm
 have T:∀b,(∃O N,w.heap[b]?=ζ (Obj.map O N))->w'.heap[b]?=w.heap[b]?:=λb ⟨O,N,z⟩=>H.keep b (lt z) λe=>by rw[e,h.cl.2]at z;cases z
 have M:∀i,i<4->A.mb i<w.heap.size:=λi y=>(h.mb i y).2.lt;have V:=h.yc.m.lt;refine⟨⟨.inl h.cl.1,mG⟩,λi y=>?_,λi y=>?_,λi j y I e=>?_,λi y=>?_,λi j g y I D E=>?_,λi j g y I D E=>?_,?_,λi y=>?_⟩;{show(F (qf A.db n db1 i)\/w.heap.size<=qf A.db n db1 i)/\w'.heap[qf A.db n db1 i]?=ζ (ω #[.map (ζ (qf A.mb n mb1 i))] _ _);by_cases e:i=n;{subst e;rw[qj,qj];exact⟨.inr l1,wN⟩};rw[qh _ _ e,qh _ _ e];exact⟨.inl (h.db i y).1,(J _ _ _ (h.db i y).2 (by decide)).trans (h.db i y).2⟩};{show(F (qf A.mb n mb1 i)\/w.heap.size<=qf A.mb n mb1 i)/\zk w' (qf A.mb n mb1 i) (vv s.kv n [] i);by_cases e:i=n;{subst e;rw[qj,MW];exact⟨.inr l2,U⟩};rw[qh _ _ e,Jj _ _ e];obtain⟨O,N,z,_⟩:=(h.mb i y).2;exact⟨.inl (h.mb i y).1,(h.mb i y).2.block (T _ ⟨O,N,z⟩)⟩};{replace e:qf A.mb n mb1 i=qf A.mb n mb1 j:=e;by_cases e1:i=n;{by_cases e2:j=n;{omega};subst e1;rw[qj,qh _ _ e2]at e;have:=M j I;omega};by_cases e2:j=n;{subst e2;rw[qj,qh _ _ e1]at e;have:=M i y;omega};rw[qh _ _ e1,qh _ _ e2]at e;exact h.mbi i j y I e};{show mM w' _ (haA A n db1 mb1) i (qf s.mv n ε i);by_cases e:i=n;{subst e;rw[qj];exact⟨qj ..,by show(qf A.cv i (Δ ε 0 0) i).ownBlock=ε;rw[qj];rfl⟩};rw[qh _ _ e];exact(((h.mv i y).keep (w':=w') (λb c _ H=>J b c _ H (by decide)) (λb c _ H=>J b c _ H (by decide)) (λb c _ H=>J b c _ H (by decide))).mono λ_ h=>.inl h).same (qh _ _ e) lc (qh _ _ e) lc};{replace D:qf A.mp n ε i=ζ g:=D;replace E:qf A.mp n ε j=ζ g:=E;by_cases e1:i=n;{subst e1;rw[qj]at D;cases D};by_cases e2:j=n;{subst e2;rw[qj]at E;cases E};rw[qh _ _ e1]at D;rw[qh _ _ e2]at E;exact h.mpi i j g y I D E};{replace D:(qf A.cv n (Δ ε 0 0) i).ownBlock=ζ g:=D;replace E:(qf A.cv n (Δ ε 0 0) j).ownBlock=ζ g:=E;by_cases e1:i=n;{subst e1;rw[qj]at D;cases D};by_cases e2:j=n;{subst e2;rw[qj]at E;cases E};rw[qh _ _ e1]at D;rw[qh _ _ e2]at E;exact h.cvi i j g y I D E};{have hk:=h.yc.keep (w':=w') (F':=λb=>F b\/w.heap.size<=b) (C:=A) (λb cur ty z Y=>J b cur ty z (by rcases Y with rfl|rfl<;>decide)) (λb z _=>T b z) (λ_ h=>.inl h) lc lc lc;refine⟨hk.f,hk.m,hk.e,hk.i,λa b R P S=>⟨(hk.n a b R P S).1,λi y=>?_⟩⟩;show qf A.mb n mb1 i≠_;by_cases e:i=n;{subst e;rw[qj];obtain⟨x,Z⟩:=au.1 S;have:=(h.yc.e a b x R P Z).2.m.lt;show mb1≠(A.sP a b).2.2;omega};rw[qh _ _ e];exact(hk.n a b R P S).2 i y};show qf A.mb n mb1 i≠A.sm;by_cases e:i=n;{subst e;rw[qj];omega};rw[qh _ _ e];exact h.smb i y
theorem zx.own {x:Sg} (h:zx w F A s) (N:n<4) (T:to<4) (hx:s.sg to n=ζ x) (fe:s.mv n=ε) (C:w2=w.setCell ⟨A.cl,1+n*3+1,ε⟩ (ξ (ζ ⟨(A.sP to n).2.1,0,ε⟩)))
  (Y:lH w' A.sm (vz (λh k=>(s.sg h k).map λ_=>(A.sP h k).1) to n ε)) (E:But (· =A.sm) w2 w'):
  zx w' F {A with db:=qf A.db n (A.sP to n).2.1,mb:=qf A.mb n (A.sP to n).2.2} {s with kv:=vv s.kv n x.kv,sg:=vz s.sg to n ε}/\But F w w':=by
 have lt:∀{b:dw} {o:Obj},w.heap[b]?=ζ o->b<w.heap.size:=λE=>(j5 E).1;have U:(s.sg to n).isSome=η:=by rw[hx];rfl
 obtain⟨⟨x1,x2,x3⟩,Z⟩:=h.yc.e to n x T N hx;have nJ:But (λb=>b=A.cl\/b=A.sm) w w':=by refine(But.setCell (B:=λb=>b=A.cl\/b=A.sm) (But.refl _ _) (.inl lc) (1+n*3+1) (ξ (ζ ⟨(A.sP to n).2.1,0,ε⟩))).trans ?_;rw[<-C];exact E.mono λb e=>.inr e
 have mq:=xhs w A.cl (1+n*3+1) _ _ (ξ (ζ ⟨(A.sP to n).2.1,0,ε⟩)) h.cl.2;rw[<-C]at mq;have ZW:∀(b:dw) (c:kw ai) (ty:aP),w.heap[b]?=ζ (aF c ty (0,0))->b≠A.sm:=λb c ty D=>h.yc.m.ty D;have M:∀(b:dw) (c:kw ai) (ty:aP),w.heap[b]?=ζ (aF c ty (0,0))->ty≠83->w'.heap[b]?=w.heap[b]?:=λb c ty D n1=>nJ.keep b (lt D) λe=>by rcases e with e|e;{rw[e,h.cl.2]at D;exact n1 (jc D).symm};exact ZW b c ty D e
 have pK:∀b,(∃R P,w.heap[b]?=ζ (Obj.map R P))->b≠A.sm->w'.heap[b]?=w.heap[b]?:=λb ⟨R,P,D⟩ fG=>nJ.keep b (lt D) λe=>by rcases e with e|e;{rw[e,h.cl.2]at D;cases D};exact fG e
 have mapOf:∀{mb:dw} {L:KV},zk w mb L->∃R P,w.heap[mb]?=ζ (Obj.map R P):=λY=>by obtain⟨R,P,D,_⟩:=Y;exact⟨R,P,D⟩
 refine⟨⟨⟨h.cl.1,?_⟩,λi z=>?_,λi z=>?_,λi j z hj e=>?_,λi z=>?_,h.mpi,h.cvi,⟨h.yc.f,?_,λa b y I H O=>?_,λa b c d I H V hd h1 h2 h3=>?_,λa b I H J=>?_⟩,λi z=>?_⟩,nJ.mono λb e=>?_⟩
 .have V:w2.heap[A.cl]?=ζ _:=mq;rw[E.keep A.cl (j5 V).1 (ZW _ _ _ h.cl.2),V];have:(zm A s).setIfInBounds (1+n*3+1) (ξ (ζ ⟨(A.sP to n).2.1,0,ε⟩))=zm {A with db:=qf A.db n (A.sP to n).2.1,mb:=qf A.mb n (A.sP to n).2.2} {s with kv:=vv s.kv n x.kv,sg:=vz s.sg to n ε}:=by
   match n,N with
   |0,_|1,_|2,_|3,_=>rfl
  rw[this]
 .show F (qf A.db n (A.sP to n).2.1 i)/\w'.heap[qf A.db n (A.sP to n).2.1 i]?=ζ (ω #[.map (ζ (qf A.mb n (A.sP to n).2.2 i))] _ _);by_cases e:i=n;{subst e;rw[qj,qj];exact⟨x2,(M _ _ _ Z.d (by decide)).trans Z.d⟩};rw[qh _ _ e,qh _ _ e];exact⟨(h.db i z).1,(M _ _ _ (h.db i z).2 (by decide)).trans (h.db i z).2⟩
 .show F (qf A.mb n (A.sP to n).2.2 i)/\zk w' (qf A.mb n (A.sP to n).2.2 i) (vv s.kv n x.kv i);by_cases e:i=n;{subst e;rw[qj,MW];exact⟨x3,Z.m.block (pK _ (mapOf Z.m) (λe=>(h.yc.n to i T N U).1 e.symm))⟩};rw[qh _ _ e,Jj _ _ e];exact⟨(h.mb i z).1,(h.mb i z).2.block (pK _ (mapOf (h.mb i z).2) (h.smb i z))⟩
 .replace e:qf A.mb n (A.sP to n).2.2 i=qf A.mb n (A.sP to n).2.2 j:=e;by_cases e1:i=n;{by_cases C:j=n;{omega};subst e1;rw[qj,qh _ _ C]at e;exact gU e.symm ((h.yc.n to i T N U).2 j hj)};by_cases C:j=n;{subst C;rw[qj,qh _ _ e1]at e;exact gU e ((h.yc.n to j T N U).2 i z)};rw[qh _ _ e1,qh _ _ C]at e;exact h.mbi i j z hj e
 .have h0:=h.mv i z;exact((h0.keep (w':=w') (λb c _ E=>M b c _ E (by decide)) (λb c _ E=>M b c _ E (by decide)) (λb c _ E=>M b c _ E (by decide)))).same lc lc lc lc
 .have e:(vz (λh k=>(s.sg h k).map λ_=>(A.sP h k).1) to n ε)=λh k=>(vz s.sg to n ε h k).map λ_=>(A.sP h k).1:=by funext a b;by_cases e:a=to/\b=n;{obtain⟨rfl,rfl⟩:=e;rw[xq,xq];rfl};rw[jy e,jy e]
  rw[e]at Y;exact Y
 .replace O:vz s.sg to n ε a b=ζ y:=O;by_cases e:a=to/\b=n;{obtain⟨rfl,rfl⟩:=e;rw[xq]at O;cases O};rw[jy e]at O;obtain⟨f1,S⟩:=h.yc.e a b y I H O;exact⟨f1,(M _ _ _ S.s (by decide)).trans S.s,(M _ _ _ S.d (by decide)).trans S.d,S.m.block (pK _ (mapOf S.m) (λe=>(h.yc.n a b I H (by rw[O];rfl)).1 e.symm))⟩
 .have old:∀a b,(vz s.sg to n ε a b).isSome=η->(s.sg a b).isSome=η:=λa b e=>by by_cases C:a=to/\b=n;{obtain⟨rfl,rfl⟩:=C;rw[xq]at e;cases e};rw[jy C]at e;exact e
  exact h.yc.i a b c d I H V hd (old a b h1) (old c d h2) h3
 .replace J:(vz s.sg to n ε a b).isSome=η:=J;by_cases C:a=to/\b=n;{obtain⟨rfl,rfl⟩:=C;rw[xq]at J;cases J};rw[jy C]at J;refine⟨(h.yc.n a b I H J).1,λi z=>?_⟩;show qf A.mb n (A.sP to n).2.2 i≠_;by_cases e:i=n;{subst e;rw[qj];exact λe3=>C (by have:=h.yc.i a b to i I H T N J U (.inr e3.symm);exact this)};rw[qh _ _ e];exact(h.yc.n a b I H J).2 i z
 .show qf A.mb n (A.sP to n).2.2 i≠A.sm;by_cases e:i=n;{subst e;rw[qj];exact λe=>(h.yc.n to i T N U).1 e.symm};rw[qh _ _ e];exact h.smb i z
 .rcases e with e|e;{exact e▸h.cl.1};exact e▸h.yc.f
variable {pv cv:ai} {ld:bn}
theorem NfW.stores {pv' cv':ai} (h:NfW w0 x n pv cv ld m w) (i:dw) (v:ai) (e:(qw n pv cv ld m).setIfInBounds i v=qw n pv' cv' ld' m'):NfW w0 x n pv' cv' ld' m' (w.setCell ⟨x,i,ε⟩ v):=by have k:=xhs w x i _ _ v h.b;exact⟨k.trans (by rw[e]),But.setCell (B:=(· =x)) h.but lc _ _⟩
theorem QR:∀(L:je Chg) (k:dw),(kg L).drop (k*3)=kg (L.drop k)
 |L,0=>by simp
 |[],k+1=>by simp[kg]
 |c::L,k+1=>by rw[ao,<-QR L k,Nat.add_mul,Nat.one_mul];show List.drop (k*3+3) (sv c.k::sv c.v::.bool c.g::kg L)=_;simp
theorem jff (h:zx w F A s) (hn:n<4) (fe:s.mv n=ζ m) (L:xK m) (h4:m.kind≠4) (Di:m.kind=2->m.parts<=m.ps.length) (EY:m.kind=3->m.parts<=m.cs.length):
  aE prog 109 #[ξ (ζ ⟨A.cl,0,ε⟩),ξ (ζ ⟨A.cl,1+n*3,ε⟩)] w (kD w F A (ο #[]) (akS s n m)):=by
 have hm:=h.mv n hn;have cV:=(h.part n hn).v;rw[fe]at hm;obtain⟨x,z1,z2,D,Y,Z,_⟩:=hm;rw[z1]at cV;replace cV:w.cell? ⟨A.cl,1+n*3+2,ε⟩=ζ (ξ (ζ ⟨x,0,ε⟩)):=cV;obtain⟨sb,gM⟩:∃b:bn,b.data.toList=m.sent:=⟨⟨m.sent.toArray⟩,by simp⟩
 have OG:w.cell? ⟨x,10,ε⟩=ζ (Γ sb):=by rw[<-qx gM];simp[aa,D,qw]
 have c2:w.cell? ⟨x,2,ε⟩=ζ (σ υ m.to):=by simp[aa,D,qw]
 have c5:w.cell? ⟨x,5,ε⟩=ζ (σ Ξ m.kind):=by simp[aa,D,qw]
 have c6:w.cell? ⟨x,6,ε⟩=ζ (σ υ n):=by simp[aa,D,qw]
 have c8:w.cell? ⟨x,8,ε⟩=ζ (σ υ m.n):=by simp[aa,D,qw]
 have c11:w.cell? ⟨x,11,ε⟩=ζ (σ υ m.parts):=by simp[aa,D,qw]
 have fr:∀j,w.frozen? ⟨x,j,ε⟩=θ:=λj=>by simp[ay,D]
 have mD:¬(9223372036854775807<m.n+1):=by have:=L.n;omega
 have H:=Hd h;have V:=Hd (ac z1 z2);have lN:=Hd fe;have HL:=Hd L;have N0:Hid (NfW w x n (A.pv n) (A.cv n) (A.ld n) m w):=Hd ⟨D,But.refl _ _⟩;by_cases hk:m.kind=2
 .have hp:=Di hk;clear Di EY;have O:akS s n m={s with mv:=qf s.mv n (ζ {m with sent:=[],ps:=m.ps.drop m.parts,n:=m.n+1})}:=by unfold akS akM;rw[eD (by omega),gI hk]
  rw[O];obtain⟨I,z,q,q1,q2⟩:=jo.shape Y;have cR:w.cell? ⟨x,3,ε⟩=ζ (.slice I m.ps.length z):=by rw[<-q];simp[aa,D,qw]
  have i2:((m.kind:gF)==2)=η:=by simp[hk]
  have k1:ν ((m.parts:gF)<=m.ps.length)=η:=xdt (by omega);have k2:m.parts<=m.ps.length:=hp;have HR:=Hd Y;have R:=Hd q;have HK:=Hd (ac q1 q2);have U:=HR.2;rw[R.o]at U;have zA:Hid (I=ε/\m.ps.length=0\/∃g off,I=ζ ⟨g,off,ε⟩):=Hd (by
   rcases U with⟨e,N⟩|⟨g,off,cap,cur,e,_⟩;{injection e with T a2 a3;exact .inl ⟨T,N⟩}
   .injection e with T a2 a3;exact .inr ⟨g,off,T⟩)
  have HO:=Hd Z;have P:Hid (∀(W:ae) (E:fo Addr),W.heap[x]?=ζ (.cells (qw n (.slice E (m.ps.length-m.parts) (z-m.parts)) (A.cv n) (A.ld n) {m with sent:=[],ps:=m.ps.drop m.parts,n:=m.n+1}) 135 (0,0))->But (· =x) w W->(∀g off,I=ζ ⟨g,off,ε⟩->E=if z=m.parts then ζ ⟨g,off,ε⟩else ζ ⟨g,off+m.parts*2,ε⟩)->(I=ε->E=ε)->
    kD w F A (ο #[]) {s with mv:=qf s.mv n (ζ {m with sent:=[],ps:=m.ps.drop m.parts,n:=m.n+1})} (ψ (ο #[])) W):=Hd λW E M hb iE mq=>by
   have hr:=HR.o;rw[R.o]at hr;have hc:=jo.cut hr k2 iE mq;have gL:nV w (.slice E (m.ps.length-m.parts) (z-m.parts)) (m.ps.drop m.parts):=by unfold nV;rw[aR,show flat (m.ps.drop m.parts)=(flat m.ps).drop (m.parts*2)from(Ng _ _).symm];exact hc
   have fJ:∀b,(Value.slice E (m.ps.length-m.parts) (z-m.parts)).ownBlock=ζ b->(A.pv n).ownBlock=ζ b:=λb J=>by rw[R.o];rcases zA.o with⟨e,_⟩|⟨g,off,e⟩;{rw[mq e]at J;cases J};rw[iE g off e]at J;rw[e];split at J<;>exact J
   exact⟨lc,_,(lc:({A with pv:=qf A.pv n _,cv:=qf A.cv n _,ld:=qf A.ld n _}:PA).cl=A.cl),(zx.mvg (w':=W) H.o hn lN.o V.1 hb M gL HO.o fJ (λ_ h=>h)).mono λ_ h=>.inl h,hb.mono λb e=>e▸V.2⟩
  have HZ:Hid (w.heap[x]?=ζ (.cells (qw n (A.pv n) (A.cv n) (A.ld n) m) 135 (0,0))):=Hd D;have C:=Hd (N0.out.store 10 (Γ ⟨#[]⟩) (A.ld n) {m with sent:=[]} rfl);obtain⟨W,M⟩:∃W,w.setCell ⟨x,10,ε⟩ (Γ ⟨#[]⟩)=W:=⟨_,lc⟩
  rw[M]at C;have HW:=Hd M;clear M;have d3:=C.out.cell 3 (.slice I m.ps.length z) (by rw[<-q];rfl);have d8:=C.out.cell 8 (σ υ m.n) lc;have d11:=C.out.cell 11 (σ υ m.parts) lc;have df:=C.out.free;clear h fe z1 z2 D Y Z gM L hk O q q1 q2 U hp;rcases zA.o with⟨e,N⟩|⟨g,off,e⟩
  .subst e;have hz:=Hd N;clear N;go_enter func109,ntmps109;go_wp2;rw[HW.o];refine aw 12 (by kernel_rfl) (by kernel_rfl) ?_;change wpStill _ _ W.drew (λS=>wpList _ _ _ _ S W.drew) _ _;simp only[ax,aH,ao,aI];repeat still_step
   refine aL ?_;go_wp2;go_end0;have y:=(C.out.stores 3 (.slice ε (m.ps.length-m.parts) (z-m.parts)) (cv':=A.cv n) (ld':=A.ld n) (m':={m with sent:=[],ps:=m.ps.drop m.parts}) lc).stores 8 (σ υ ((m.n:gF)+1)) (ld':=A.ld n) (m':={m with sent:=[],ps:=m.ps.drop m.parts,n:=m.n+1}) lc;exact P.o _ ε y.b (by first|exact y.but|exact y.but.drew) (λg off e=>(by cases e)) (λ_=>lc)
  .subst e;go_enter func109,ntmps109;go_wp2;rw[HW.o];refine aw 12 (by kernel_rfl) (by kernel_rfl) ?_;change wpStill _ _ W.drew (λS=>wpList _ _ _ _ S W.drew) _ _;simp only[ax,aH,ao,aI];repeat still_step
   refine aL ?_;go_wp2
   .have BM:z=m.parts:=by omega
    have h0:z-m.parts=0:=by omega
    have hD:=P.o;rw[h0]at hD;go_end0;have y:=(C.out.stores 3 (Δ (ζ ⟨g,off,ε⟩) (m.ps.length-m.parts) 0) (cv':=A.cv n) (ld':=A.ld n) (m':={m with sent:=[],ps:=m.ps.drop m.parts}) lc).stores 8 (σ υ ((m.n:gF)+1)) (ld':=A.ld n) (m':={m with sent:=[],ps:=m.ps.drop m.parts,n:=m.n+1}) lc;exact hD _ (ζ ⟨g,off,ε⟩) y.b (by first|exact y.but|exact y.but.drew) (λg off e=>(by cases e;first|rw[gI (by assumption)]|simp[*])) (λe=>(by cases e))
   .have BM:¬z=m.parts:=by omega
    go_end0;have y:=(C.out.stores 3 (Δ (ζ ⟨g,off+m.parts*2,ε⟩) (m.ps.length-m.parts) (z-m.parts)) (cv':=A.cv n) (ld':=A.ld n) (m':={m with sent:=[],ps:=m.ps.drop m.parts}) lc).stores 8 (σ υ ((m.n:gF)+1)) (ld':=A.ld n) (m':={m with sent:=[],ps:=m.ps.drop m.parts,n:=m.n+1}) lc;exact P.o _ (ζ ⟨g,off+m.parts*2,ε⟩) y.b (by first|exact y.but|exact y.but.drew) (λg off e=>(by cases e;first|rw[eD (by assumption)]|simp[*])) (λe=>(by cases e))
 have h2:=hk;clear hk;by_cases hk:m.kind=3
 .have hp:=EY hk;clear Di EY;have O:akS s n m={s with mv:=qf s.mv n (ζ {m with sent:=[],cs:=m.cs.drop m.parts,n:=m.n+1})}:=by unfold akS akM;rw[eD (by omega),eD (by omega),gI hk]
  rw[O];obtain⟨I,z,q,q1,q2⟩:=jo.shape Z;have cR:w.cell? ⟨x,4,ε⟩=ζ (.slice I m.cs.length z):=by rw[<-q];simp[aa,D,qw]
  have i2:((m.kind:gF)==2)=θ:=by simp;omega
  have i3:((m.kind:gF)==3)=η:=by simp[hk]
  have k1:ν ((m.parts:gF)<=m.cs.length)=η:=xdt (by omega);have k2:m.parts<=m.cs.length:=hp;have HR:=Hd Z;have R:=Hd q;have HK:=Hd (ac q1 q2);have U:=HR.2;rw[R.o]at U;have zA:Hid (I=ε/\m.cs.length=0\/∃g off,I=ζ ⟨g,off,ε⟩):=Hd (by
   rcases U with⟨e,N⟩|⟨g,off,cap,cur,e,_⟩;{injection e with T a2 a3;exact .inl ⟨T,N⟩}
   .injection e with T a2 a3;exact .inr ⟨g,off,T⟩)
  have HO:=Hd Y;have P:Hid (∀(W:ae) (E:fo Addr),W.heap[x]?=ζ (.cells (qw n (A.pv n) (.slice E (m.cs.length-m.parts) (z-m.parts)) (A.ld n) {m with sent:=[],cs:=m.cs.drop m.parts,n:=m.n+1}) 135 (0,0))->But (· =x) w W->(∀g off,I=ζ ⟨g,off,ε⟩->E=if z=m.parts then ζ ⟨g,off,ε⟩else ζ ⟨g,off+m.parts*3,ε⟩)->(I=ε->E=ε)->
    kD w F A (ο #[]) {s with mv:=qf s.mv n (ζ {m with sent:=[],cs:=m.cs.drop m.parts,n:=m.n+1})} (ψ (ο #[])) W):=Hd λW E M hb iE mq=>by
   have hr:=HR.o;rw[R.o]at hr;have hc:=jo.cut hr k2 iE mq;have gL:sV w (.slice E (m.cs.length-m.parts) (z-m.parts)) (m.cs.drop m.parts):=by unfold sV;rw[aR,show kg (m.cs.drop m.parts)=(kg m.cs).drop (m.parts*3)from(QR _ _).symm];exact hc
   have fJ:∀b,(Value.slice E (m.cs.length-m.parts) (z-m.parts)).ownBlock=ζ b->(A.cv n).ownBlock=ζ b:=λb J=>by rw[R.o];rcases zA.o with⟨e,_⟩|⟨g,off,e⟩;{rw[mq e]at J;cases J};rw[iE g off e]at J;rw[e];split at J<;>exact J
   exact⟨lc,_,(lc:({A with pv:=qf A.pv n _,cv:=qf A.cv n _,ld:=qf A.ld n _}:PA).cl=A.cl),(zx.mvg (w':=W) H.o hn lN.o V.1 hb M HO.o gL (λ_ h=>h) fJ).mono λ_ h=>.inl h,hb.mono λb e=>e▸V.2⟩
  have HZ:Hid (w.heap[x]?=ζ (.cells (qw n (A.pv n) (A.cv n) (A.ld n) m) 135 (0,0))):=Hd D;have C:=Hd (N0.out.store 10 (Γ ⟨#[]⟩) (A.ld n) {m with sent:=[]} rfl);obtain⟨W,M⟩:∃W,w.setCell ⟨x,10,ε⟩ (Γ ⟨#[]⟩)=W:=⟨_,lc⟩
  rw[M]at C;have HW:=Hd M;clear M;have d3:=C.out.cell 4 (.slice I m.cs.length z) (by rw[<-q];rfl);have d8:=C.out.cell 8 (σ υ m.n) lc;have d11:=C.out.cell 11 (σ υ m.parts) lc;have df:=C.out.free;clear h fe z1 z2 D Y Z gM L hk O q q1 q2 U hp;rcases zA.o with⟨e,N⟩|⟨g,off,e⟩
  .subst e;have hz:=Hd N;clear N;go_enter func109,ntmps109;go_wp2;rw[HW.o];refine aw 12 (by kernel_rfl) (by kernel_rfl) ?_;change wpStill _ _ W.drew (λS=>wpList _ _ _ _ S W.drew) _ _;simp only[ax,aH,ao,aI];repeat still_step
   refine aL ?_;go_wp2;go_end0;have y:=(C.out.stores 4 (.slice ε (m.cs.length-m.parts) (z-m.parts)) (pv':=A.pv n) (ld':=A.ld n) (m':={m with sent:=[],cs:=m.cs.drop m.parts}) lc).stores 8 (σ υ ((m.n:gF)+1)) (ld':=A.ld n) (m':={m with sent:=[],cs:=m.cs.drop m.parts,n:=m.n+1}) lc;exact P.o _ ε y.b (by first|exact y.but|exact y.but.drew) (λg off e=>(by cases e)) (λ_=>lc)
  .subst e;go_enter func109,ntmps109;go_wp2;rw[HW.o];refine aw 12 (by kernel_rfl) (by kernel_rfl) ?_;change wpStill _ _ W.drew (λS=>wpList _ _ _ _ S W.drew) _ _;simp only[ax,aH,ao,aI];repeat still_step
   refine aL ?_;go_wp2
   .have BM:z=m.parts:=by omega
    have h0:z-m.parts=0:=by omega
    have hD:=P.o;rw[h0]at hD;go_end0;have y:=(C.out.stores 4 (Δ (ζ ⟨g,off,ε⟩) (m.cs.length-m.parts) 0) (pv':=A.pv n) (ld':=A.ld n) (m':={m with sent:=[],cs:=m.cs.drop m.parts}) lc).stores 8 (σ υ ((m.n:gF)+1)) (ld':=A.ld n) (m':={m with sent:=[],cs:=m.cs.drop m.parts,n:=m.n+1}) lc;exact hD _ (ζ ⟨g,off,ε⟩) y.b (by first|exact y.but|exact y.but.drew) (λg off e=>(by cases e;first|rw[gI (by assumption)]|simp[*])) (λe=>(by cases e))
   .have BM:¬z=m.parts:=by omega
    go_end0;have y:=(C.out.stores 4 (Δ (ζ ⟨g,off+m.parts*3,ε⟩) (m.cs.length-m.parts) (z-m.parts)) (pv':=A.pv n) (ld':=A.ld n) (m':={m with sent:=[],cs:=m.cs.drop m.parts}) lc).stores 8 (σ υ ((m.n:gF)+1)) (ld':=A.ld n) (m':={m with sent:=[],cs:=m.cs.drop m.parts,n:=m.n+1}) lc;exact P.o _ (ζ ⟨g,off+m.parts*3,ε⟩) y.b (by first|exact y.but|exact y.but.drew) (λg off e=>(by cases e;first|rw[eD (by assumption)]|simp[*])) (λe=>(by cases e))
 have h3:=hk;clear hk Di EY;have i2:((m.kind:gF)==2)=θ:=by simp;omega
 have i3:((m.kind:gF)==3)=θ:=by simp;omega
 have i4:((m.kind:gF)==4)=θ:=by simp;omega
 have O:akS s n m={s with mv:=qf s.mv n (ζ {m with sent:=[],n:=m.n+1})}:=by unfold akS akM;rw[eD h4,eD h2,eD h3]
 rw[O];have y:=Hd ((N0.out.store 10 (Γ ⟨#[]⟩) (A.ld n) {m with sent:=[]} rfl).store 8 (σ υ ((m.n:gF)+1)) (A.ld n) {m with sent:=[],n:=m.n+1} rfl);clear h fe z1 z2 D Y Z gM L h2 h3 h4 O;go_enter func109,ntmps109;go_wp2;go_end0;exact⟨lc,{A with ld:=qf A.ld n (A.ld n)},lc,(H.mvb hn lN.o V.1 y.out.but y.out.b lc lc).mono λ_ h=>.inl h,y.out.but.mono λb e=>e▸V.2⟩
theorem Xa {α:Type} (f:dw->α) (n:dw) (a b:α):qf (qf f n a) n b=qf f n b:=by funext i;by_cases e:i=n;{subst e;rw[qj,qj]};rw[qh _ _ e,qh _ _ e,qh _ _ e]
theorem Pv (j:m.kind=4) (h:∀y,s.sg m.to n=ζ y->¬(y.id=m.id/\y.done=η)):akS s n m=haS {s with mv:=qf s.mv n (ζ {m with sent:=[]})} n m.to:=by
 have hk:hoK s n m=ε:=by
  unfold hoK;cases ho:s.sg m.to n with
  |none=>rfl
  |some y=>exact eD (h y ho)
 unfold akS;rw[gI j];unfold hoS haS;simp only[hk,Xa]
theorem jfg {y:Sg} (j:m.kind=4) (D:s.sg m.to n=ζ y) (C:y.id=m.id) (z:y.done=η):akS s n m={haS {s with mv:=qf s.mv n (ζ {m with sent:=[]})} n m.to with kv:=vv (vv s.kv n []) n y.kv,sg:=vz s.sg m.to n ε}:=by
 have hk:hoK s n m=ζ y:=by unfold hoK;rw[D];exact gI ⟨C,z⟩
 have e:vv (vv s.kv n []) n y.kv=vv s.kv n y.kv:=by funext i;by_cases e:i=n;{subst e;rw[MW,MW]};rw[Jj _ _ e,Jj _ _ e,Jj _ _ e]
 unfold akS;rw[gI j,e];unfold hoS haS;simp only[hk,Xa]
structure HaW (w0:ae) (F:dw->Prop) (A:PA) (s:St) (n x pb:dw) (m:Mv) (w:ae):Prop where
 p:zx w F A s
 b:But F w0 w
 x0:w.cell? ⟨x,0,ε⟩=ζ (σ υ m.id)
 x2:w.cell? ⟨x,2,ε⟩=ζ (σ υ m.to)
 xt:x≠A.cl
 q0:w.cell? ⟨pb,0,ε⟩=ζ (σ υ m.to)
 q1:w.cell? ⟨pb,1,ε⟩=ζ (σ υ n)
 qt:pb≠A.cl
 l:w0.heap.size<=w.heap.size
theorem HaW.below (h:HaW w0 F A s n x pb m w) (j:aC w.heap.size w w'):HaW w0 F A s n x pb m w':=
 ⟨h.p.below j,h.b.trans (il j),(j.cell (xbl w _ h.x0)).trans h.x0,(j.cell (xbl w _ h.x2)).trans h.x2,h.xt,(j.cell (xbl w _ h.q0)).trans h.q0,(j.cell (xbl w _ h.q1)).trans h.q1,h.qt,xlt h.l j.size⟩
theorem HaW.cells {pb:dw} (h:HaW w0 F A s n x pb m w) (D:n<4):w.cell? ⟨A.cl,1+n*3,ε⟩=ζ (σ υ (s.ow n))/\w.cell? ⟨A.cl,1+n*3+1,ε⟩=ζ (ptr (ζ (A.db n)))/\w.cell? ⟨A.cl,1+n*3+2,ε⟩=ζ (ptr (A.mp n))/\w.cell? ⟨A.cl,15,ε⟩=ζ (σ υ s.ep)/\w.cell? ⟨A.cl,13,ε⟩=ζ (.map (ζ A.sm))/\∀j,w.frozen? ⟨A.cl,j,ε⟩=θ:=by obtain⟨y,z,C⟩:=Jw A s n D;exact⟨(h.p.cells _ _ y).1,(h.p.cells _ _ z).1,(h.p.cells _ _ C).1,(h.p.cells 15 _ lc).1,(h.p.cells 13 _ lc).1,λj=>by simp[ay,h.p.cl.2]⟩
theorem HaW.made (h:HaW w0 F A s n x pb m w) (e:w2=rP w1) (j:w1=w\/w1=w.drew:=by first|exact .inl lc|exact .inr lc):HaW w0 F A s n x pb m w2/\w.heap.size<w2.heap.size:=by
 have z:w1.heap.size=w.heap.size:=by rcases j with rfl|rfl<;>rfl
 have y:aC w.heap.size w w2:=by subst e;rcases j with rfl|rfl;{exact((qy _ _).alloc (jg _) _).alloc (by simp) _};exact((qy _ _).drew.alloc (jg _) _).alloc (by simp) _
 exact⟨h.below y,by subst e;unfold rP;simp;omega⟩
def ovW (w:ae) (cl n to:dw) (ep:gF):ae:=((((rP w).setCell ⟨cl,1+n*3,ε⟩ (σ υ to)).setCell ⟨cl,1+n*3+1,ε⟩ (ξ (ζ ⟨w.heap.size+1,0,ε⟩))).setCell ⟨cl,1+n*3+2,ε⟩ (.pointer ε)).setCell ⟨cl,15,ε⟩ (σ υ ep)
theorem q4x (A:PA) (s:St) (j:n<4) {db mb:dw}:((((zm A s).setIfInBounds (1+n*3) (σ υ to)).setIfInBounds (1+n*3+1) (ξ (ζ ⟨db,0,ε⟩))).setIfInBounds (1+n*3+2) (.pointer ε)).setIfInBounds 15 (σ υ ((s.ep:gF)+1))=zm (haA A n db mb) (haS s n to):=by
 match n,j with
 |0,_=>simp[zm,haA,haS,qf,ptr]
 |1,_=>simp[zm,haA,haS,qf,ptr]
 |2,_=>simp[zm,haA,haS,qf,ptr]
 |3,_=>simp[zm,haA,haS,qf,ptr]
theorem HaW.over (h:HaW w0 F A s n x pb m w) (M:n<4):HaW w0 (λb=>F b\/w0.heap.size<=b) (haA A n (w.heap.size+1) w.heap.size) (haS s n to) n x pb m (ovW w A.cl n to ((s.ep:gF)+1))/\But F w0 (ovW w A.cl n to ((s.ep:gF)+1)):=by
 have J:aC w.heap.size w (rP w):=((qy _ _).alloc (jg _) _).alloc (by simp) _;have y:=h.below J;have T:(rP w).heap[w.heap.size]?=ζ (.map #[] 0):=by unfold rP;rw[aD _ _ (by simp)];exact heap_alloc_new' _ _ lc
 have c1:(rP w).heap[w.heap.size+1]?=ζ (ω #[.map (ζ w.heap.size)] 142 (0,0)):=heap_alloc_new' _ _ (by simp);unfold ovW;generalize rP w=V at*;have mG:=y.p.cl.2;have O:=xhs V A.cl (1+n*3) _ _ (σ υ to) mG;have U:But (· =A.cl) V (V.setCell ⟨A.cl,1+n*3,ε⟩ (σ υ to)):=But.setCell (B:=(· =A.cl)) (But.refl _ _) lc _ _;generalize V.setCell ⟨A.cl,1+n*3,ε⟩ (σ υ to)=E at*;have P:=xhs E A.cl (1+n*3+1) _ _ (ξ (ζ ⟨w.heap.size+1,0,ε⟩)) O;have Y:But (· =A.cl) V (E.setCell ⟨A.cl,1+n*3+1,ε⟩ (ξ (ζ ⟨w.heap.size+1,0,ε⟩))):=But.setCell (B:=(· =A.cl)) U lc _ _;generalize E.setCell ⟨A.cl,1+n*3+1,ε⟩ (ξ (ζ ⟨w.heap.size+1,0,ε⟩))=H at*;have R:=xhs H A.cl (1+n*3+2) _ _ (.pointer ε) P;have Z:But (· =A.cl) V (H.setCell ⟨A.cl,1+n*3+2,ε⟩ (.pointer ε)):=But.setCell (B:=(· =A.cl)) Y lc _ _;generalize H.setCell ⟨A.cl,1+n*3+2,ε⟩ (.pointer ε)=I at*;have S:=xhs I A.cl 15 _ _ (σ υ ((s.ep:gF)+1)) R;have C:But (· =A.cl) V (I.setCell ⟨A.cl,15,ε⟩ (σ υ ((s.ep:gF)+1))):=But.setCell (B:=(· =A.cl)) Z lc _ _;generalize I.setCell ⟨A.cl,15,ε⟩ (σ υ ((s.ep:gF)+1))=D at*;rw[q4x A s M (mb:=w.heap.size)]at S;clear O P R U Y Z;have vL:But (· =A.cl) w D:=(il J).trans C;have Z8:=h.p.clt;have lt1:∀{b:dw} {o:Obj},V.heap[b]?=ζ o->b<V.heap.size:=λC=>(j5 C).1;have hp:=zx.hand h.p (w':=D) (to:=to) (db1:=w.heap.size+1) (mb1:=w.heap.size) M vL S ((C.keep _ (lt1 c1) (by omega)).trans c1) (Qp ((C.keep _ (lt1 T) (by omega)).trans T)) (by omega) (jg _);have z:∀b j v,b≠A.cl->V.cell? ⟨b,j,ε⟩=ζ v->D.cell? ⟨b,j,ε⟩=ζ v:=λb j v e N=>(xcb (C.keep b (xbl _ _ N) e)).trans N;have hF:But F w0 D:=h.b.trans (vL.mono λb e=>e▸h.p.cl.1);exact⟨⟨hp.mono λb e=>e.imp id λe=>xlt h.l e,hF.mono λb e=>.inl e,z _ _ _ y.xt y.x0,z _ _ _ y.xt y.x2,y.xt,z _ _ _ y.qt y.q0,z _ _ _ y.qt y.q1,y.qt,xlt y.l C.size⟩,hF⟩
theorem q0v (h:zx w F A s) (C:n<4) (fe:s.mv n=ζ m) (L:xK m) (h4:m.kind=4) (BF:m.to<4) (Kk:s.ep<4611686018427387904):
  aE prog 109 #[ξ (ζ ⟨A.cl,0,ε⟩),ξ (ζ ⟨A.cl,1+n*3,ε⟩)] w (kD w F A (ο #[]) (akS s n m)):=by
 have hm:=h.mv n C;have cV:=(h.part n C).v;rw[fe]at hm;obtain⟨x,z1,z2,O,z4,z5,_⟩:=hm;rw[z1]at cV;replace cV:w.cell? ⟨A.cl,1+n*3+2,ε⟩=ζ (ξ (ζ ⟨x,0,ε⟩)):=cV;obtain⟨sb,gM⟩:∃b:bn,b.data.toList=m.sent:=⟨⟨m.sent.toArray⟩,by simp⟩
 have OG:w.cell? ⟨x,10,ε⟩=ζ (Γ sb):=by rw[<-qx gM];simp[aa,O,qw]
 have c2:w.cell? ⟨x,2,ε⟩=ζ (σ υ m.to):=by simp[aa,O,qw]
 have c5:w.cell? ⟨x,5,ε⟩=ζ (σ Ξ m.kind):=by simp[aa,O,qw]
 have c6:w.cell? ⟨x,6,ε⟩=ζ (σ υ n):=by simp[aa,O,qw]
 have c8:w.cell? ⟨x,8,ε⟩=ζ (σ υ m.n):=by simp[aa,O,qw]
 have c11:w.cell? ⟨x,11,ε⟩=ζ (σ υ m.parts):=by simp[aa,O,qw]
 have fr:∀j,w.frozen? ⟨x,j,ε⟩=θ:=λj=>by simp[ay,O]
 have mD:¬(9223372036854775807<m.n+1):=by have:=L.n;omega
 have H:=Hd h;have HX:=Hd (ac z1 z2);have lN:=Hd fe;have HL:=Hd L;have N0:Hid (NfW w x n (A.pv n) (A.cv n) (A.ld n) m w):=Hd ⟨O,But.refl _ _⟩;have i2:((m.kind:gF)==2)=θ:=by simp;omega
 have i3:((m.kind:gF)==3)=θ:=by simp;omega
 have i4:((m.kind:gF)==4)=η:=by simp[h4]
 have N:=Hd (N0.out.store 10 (Γ ⟨#[]⟩) (A.ld n) {m with sent:=[]} rfl);obtain⟨R,hW⟩:∃W,w.setCell ⟨x,10,ε⟩ (Γ ⟨#[]⟩)=W:=⟨_,lc⟩
 rw[hW]at N;have P1:=h.mvb (w':=R) (ld':=A.ld n) (m':={m with sent:=[]}) C fe z1 N.out.but N.out.b lc lc;have HW:=Hd hW;have xl:x<R.heap.size:=(j5 N.out.b).1;have d0:=N.out.cell 0 (σ υ m.id) lc;have d2:=N.out.cell 2 (σ υ m.to) lc;have d6:=N.out.cell 6 (σ υ n) lc;have T:Hid (HaW w F {A with ld:=qf A.ld n (A.ld n)} {s with mv:=qf s.mv n (ζ {m with sent:=[]})} n x R.heap.size m (R.alloc (ω #[σ υ m.to,σ υ n] 154)).drew):=Hd (by
  have Z:aC R.heap.size R (R.alloc (ω #[σ υ m.to,σ υ n] 154)).drew:=((qy _ _).alloc (jg _) _).drew;have Z8:=P1.clt;refine⟨P1.below Z,(N.out.but.mono λb e=>e▸z2).trans (il Z),(Z.cell xl).trans d0,(Z.cell xl).trans d2,λe=>?_,by go_simp,by go_simp,?_,xlt N.out.but.size Z.size⟩;{have hb:=h.cl.2;rw[<-e,O]at hb;exact gU (jc hb) (by decide)}
  .exact λe=>gU Z8 (by rw[<-e];exact Nat.lt_irrefl _))
 have P:=Hd (ac h4 (ac BF Kk));have hepb:¬(9223372036854775807<s.ep+1):=by omega
 clear P1 hW h fe z1 z2 O z4 z5 gM L h4 BF;go_enter func109,ntmps109;go_wp2;rw[HW.o];go_region;generalize (R.alloc (ω #[σ υ m.to,σ υ n] 154)).drew=J at T|-;obtain⟨pb,iq⟩:∃pb,R.heap.size=pb:=⟨_,lc⟩
 rw[iq]at T|-;clear HW N d0 d2 d6 xl c2 c5 c6 c8 OG c11 cV fr iq;have e2:=T.x2;obtain⟨f1,f2,f3,f4,f5,f6⟩:=T.cells C;have xt:=T.xt;have xt2:A.cl≠x:=λe=>xt e.symm;go_wp2;go_region_with (first|(go_at_call 39;refine Qf.mono ?_;rintro e w2 ⟨rfl,h2⟩;have TV:=Hd (T.made h2);have e22:=TV.1.x2;have hz:=TV.2;obtain⟨g1,g2,g3,g4,g5,g6⟩:=TV.1.cells C;have H2:=Hd h2;clear h2))
 all_goals
  obtain⟨I,hW5⟩:∃I,(((w2.setCell ⟨A.cl,1+n*3,ε⟩ (σ υ m.to)).setCell ⟨A.cl,1+n*3+1,ε⟩ (ξ (ζ ⟨J.heap.size+1,0,ε⟩))).setCell ⟨A.cl,1+n*3+2,ε⟩ (.pointer ε)).setCell ⟨A.cl,15,ε⟩ (σ υ ((s.ep:gF)+1))=I:=⟨_,lc⟩
  have E:Hid (HaW w (λb=>F b\/w.heap.size<=b) (haA {A with ld:=qf A.ld n (A.ld n)} n (J.heap.size+1) J.heap.size) (haS {s with mv:=qf s.mv n (ζ {m with sent:=[]})} n m.to) n x pb m I/\But F w I):=Hd (by
   rw[<-hW5];first
    |(rw[show w2=rP J from H2.o];exact T.over (to:=m.to) C)
    |(rw[show w2=rP J.drew from H2.o];exact(T.below (qy _ _).drew).over (to:=m.to) C))
  have q0:=E.1.q0;have q1:=E.1.q1;have q2:=E.1.x0;have q3:I.cell? ⟨A.cl,13,ε⟩=ζ (.map (ζ A.sm)):=(E.1.p.cells 13 _ lc).1;have Y:∀j,(aN 76 (.map (ζ A.sm)) (Θ #[σ υ m.to,σ υ n]) θ).run prog (I.drewN j)=.ok (ptr ((s.sg m.to n).map λ_=>(A.sP m.to n).1)) (I.drewN j):=λj=>by have h9:=zx.look (E.1.below (Below.drewN' (qy _ _) j)).p P.2.1 C;exact h9
  cases ho:s.sg m.to n with
  |none=>rw[ho]at Y;replace Y:∀j,(aN 76 (.map (ζ A.sm)) (Θ #[σ υ m.to,σ υ n]) θ).run prog (I.drewN j)=.ok (.pointer ε) (I.drewN j):=Y;go_wp2;go_quiet (fail);go_wp2;have M:=Hd (ac (E.1.below (Below.drewN' (qy _ _) nq)) (E.2.drewN nq));generalize I.drewN nq=V at M|-;go_quiet (fail);go_wp2;refine aT (results_none lc _ _ _) lc ?_;rw[Pv P.1 (by rw[ho];exact λy e=>(by cases e))];exact⟨lc,_,(lc:(haA {A with ld:=qf A.ld n (A.ld n)} n (J.heap.size+1) J.heap.size).cl=A.cl),M.1.p.below (Below.drewN' (qy _ _) nq),M.2.drewN nq⟩
  |some y=>
   rw[ho]at Y;replace Y:∀j,(aN 76 (.map (ζ A.sm)) (Θ #[σ υ m.to,σ υ n]) θ).run prog (I.drewN j)=.ok (ξ (ζ ⟨(A.sP m.to n).1,0,ε⟩)) (I.drewN j):=Y;have hst:jO I (A.sP m.to n).1 (A.sP m.to n).2.1 (A.sP m.to n).2.2 y.id y.next y.done y.kv:=(E.1.p.yc.e m.to n y P.2.1 C ho).2;obtain⟨y0,_,y2,y3,_⟩:=hst.cells;by_cases hid:y.id=m.id
   .have i5:((y.id:gF)==m.id)=η:=by simp[hid]
    cases hd:y.done;{rw[hd]at y3;go_wp2;go_quiet (fail);go_wp2;have M:=Hd (ac (E.1.below (Below.drewN' (qy _ _) nq)) (E.2.drewN nq));go_quiet (fail);go_wp2;refine aT (results_none lc _ _ _) lc ?_;rw[Pv P.1 (by rw[ho];exact λz e=>(by cases e;exact λh=>(by rw[hd]at h;exact gU h.2 (by decide))))];exact⟨lc,_,(lc:(haA {A with ld:=qf A.ld n (A.ld n)} n (J.heap.size+1) J.heap.size).cl=A.cl),M.1.p.below (Below.drewN' (qy _ _) nq),M.2.drewN nq⟩}
    .rw[hd]at y3;go_wp2;go_quiet (fail);go_wp2;have M:=Hd (ac (E.1.below (Below.drewN' (qy _ _) nq)) (E.2.drewN nq));go_quiet (fail);have D:=Hd (ac (M.1.below (Below.drewN' (qy _ _) nq)) (M.2.drewN nq));generalize World.drewN (World.drewN I _) _=V at D|-;clear y0 y2 y3 Y q0 q1 q2 q3 hst g1 g2 g3 g4 g5 g6 hW5 e22 hz e2 f1 f2 f3 f4 f5 f6;have y2:V.cell? ⟨(A.sP m.to n).1,2,ε⟩=ζ (ξ (ζ ⟨(A.sP m.to n).2.1,0,ε⟩)):=((D.1.p.yc.e m.to n y P.2.1 C ho).2.cells).2.2.1;obtain⟨v1,r1⟩:∃v,V.cell? ⟨A.cl,1+n*3+1,ε⟩=ζ v:=⟨_,(D.1.cells C).2.1⟩
     have r13:V.cell? ⟨A.cl,13,ε⟩=ζ (.map (ζ A.sm)):=(D.1.cells C).2.2.2.2.1;have rf:∀j,V.frozen? ⟨A.cl,j,ε⟩=θ:=(D.1.cells C).2.2.2.2.2;obtain⟨S,Te⟩:∃S,V.setCell ⟨A.cl,1+n*3+1,ε⟩ (ξ (ζ ⟨(A.sP m.to n).2.1,0,ε⟩))=S:=⟨_,lc⟩
     have k6:But (· =A.cl) V S:=by rw[<-Te];exact But.setCell (B:=(· =A.cl)) (But.refl _ _) lc _ _
     have p6:lH S.drew A.sm (λh k=>(s.sg h k).map λ_=>(A.sP h k).1):=D.1.p.yc.m.block (k6.keep A.sm D.1.p.yc.m.lt (D.1.p.yc.m.ty D.1.p.cl.2).symm);have U:∀b j v,b≠A.cl->V.cell? ⟨b,j,ε⟩=ζ v->S.cell? ⟨b,j,ε⟩=ζ v:=λb j v e hv=>(xcb (k6.keep b (xbl _ _ hv) e)).trans hv;have u0:=U _ _ _ D.1.qt D.1.q0;have u1:=U _ _ _ D.1.qt D.1.q1;have u13:S.cell? ⟨A.cl,13,ε⟩=ζ (.map (ζ A.sm)):=by
      rw[<-Te];match n,C with
      |0,_|1,_|2,_|3,_=>exact(World.cell?_setCell_other _ _ _ _ (by intro e;injection e with _ e2;exact gU e2 (by decide))).trans r13
     obtain⟨w9,fA,hm9,vM⟩:=p6.del P.2.1 C 0;replace fA:(Builtin.delete_ #[76,154] 0 #[.map (ζ A.sm),Θ #[σ υ m.to,σ υ n]]).run prog S.drew=.ok (ο #[]) w9:=fA;have H9:=Hd (zx.own D.1.p C P.2.1 ho (qj ..) Te.symm hm9 ((But.refl _ _).drew.trans vM));clear U p6 k6 hm9 vM;go_wp2;refine aw 5 (by kernel_rfl) (by kernel_rfl) ?_;change wpStill _ _ S.drew (λa'=>wpList _ _ _ _ a' S.drew) _ _;simp only[ax,aH,ao,aI];repeat still_step
     refine aL ?_;go_wp2;refine aT (results_none lc _ _ _) lc ?_;rw[jfg P.1 ho hid hd];exact⟨lc,_,(lc:({haA {A with ld:=qf A.ld n (A.ld n)} n (J.heap.size+1) J.heap.size with db:=_,mb:=_}:PA).cl=A.cl),H9.1,D.2.top H9.2 λb e=>e⟩
   .have i5:((y.id:gF)==m.id)=θ:=by simp;omega
    go_wp2;go_quiet (fail);go_wp2;have M:=Hd (ac (E.1.below (Below.drewN' (qy _ _) nq)) (E.2.drewN nq));go_quiet (fail);go_wp2;refine aT (results_none lc _ _ _) lc ?_;rw[Pv P.1 (by rw[ho];exact λz e=>(by cases e;exact λh=>hid h.1))];exact⟨lc,_,(lc:(haA {A with ld:=qf A.ld n (A.ld n)} n (J.heap.size+1) J.heap.size).cl=A.cl),M.1.p.below (Below.drewN' (qy _ _) nq),M.2.drewN nq⟩
end
section
variable {w w' w0:ae} {F:dw->Prop} {A:PA} {s:St} {n x:dw} {m:Mv}
structure Lv (m:Mv):Prop where
 k2:m.kind=2->m.parts<=m.ps.length
 k3:m.kind=3->m.parts<=m.cs.length
theorem q92 (h:zx w F A s) (y:n<4) (j:s.mv n=ζ m) (L:xK m) (hk:Lv m) (z:m.to<4) (C:s.ep<4611686018427387904):
  aE prog 109 #[ξ (ζ ⟨A.cl,0,ε⟩),ξ (ζ ⟨A.cl,1+n*3,ε⟩)] w (kD w F A (ο #[]) (akS s n m)):=by
 by_cases h4:m.kind=4;{exact q0v h y j L h4 z C};exact jff h y j L h4 hk.k2 hk.k3
structure F6 (s:St):Prop where
 hosts:s.hosts<=4
 kvr:∀i,i<4->yh (s.kv i)
 kvl:∀i,i<4->(s.kv i).length<=16777216
 kvk:∀i,i<4->∀p∈s.kv i,p.1.length<=bF
 id:s.id<=4611686018427387904
 ep:s.ep<4611686018427387904
 mv:∀i,i<4->∀m,s.mv i=ζ m->xK m/\m.to<4/\m.fr<4611686018427387904/\(m.sent≠[]->Lv m)
structure RpW (w0:ae) (F:dw->Prop) (A:PA) (s:St) (f:Fr) (fb:dw) (w:ae):Prop where
 p:zx w F A s
 b:But (λ_=>iO) w0 w
 fr:w.heap[fb]?=ζ (ω #[σ Ξ f.kind,σ υ f.qb,σ υ f.id,σ υ f.n,sv f.load] 133 (0,0))
theorem RpW.drewN {f:Fr} {fb:dw} (d:RpW w0 F A s f fb w) (n:dw):RpW w0 F A s f fb (w.drewN n):=⟨d.p.idle (But.drewN (But.refl _ _) n),d.b.drewN n,d.fr⟩
theorem RpW.of {f:Fr} (p:zx w0 F A s) (z:But (λ_=>iO) w0 w) (y:ld.data.toList=f.load):RpW w0 F A s f w.heap.size (w.alloc (ω #[σ Ξ f.kind,σ υ f.qb,σ υ f.id,σ υ f.n,Γ ld] 133)):=by have j:=z.trans (il (B:=λ_=>iO) ((qy w.heap.size w).alloc (jg _) (ω #[σ Ξ f.kind,σ υ f.qb,σ υ f.id,σ υ f.n,Γ ld] 133)));exact⟨p.idle j,j,by rw[aO,qx y]⟩
theorem RpW.cells {f:Fr} {fb:dw} {ld:bn} (d:RpW w0 F A s f fb w) (y:ld.data.toList=f.load):w.cell? ⟨fb,0,ε⟩=ζ (σ Ξ f.kind)/\w.cell? ⟨fb,1,ε⟩=ζ (σ υ f.qb)/\w.cell? ⟨fb,2,ε⟩=ζ (σ υ f.id)/\w.cell? ⟨fb,3,ε⟩=ζ (σ υ f.n)/\w.cell? ⟨fb,4,ε⟩=ζ (Γ ld):=by have j:=d.fr;rw[qx y]at j;exact⟨by simp[aa,j],by simp[aa,j],by simp[aa,j],by simp[aa,j],by simp[aa,j]⟩
theorem RpW.mv {f:Fr} {fb:dw} (d:RpW w0 F A s f fb w) (C:n<4) (E:s.mv n=ζ m) (I:A.mp n=ζ x) {sb:bn} (H:sb.data.toList=m.sent):w.cell? ⟨A.cl,1+n*3+2,ε⟩=ζ (ξ (ζ ⟨x,0,ε⟩))/\w.cell? ⟨x,0,ε⟩=ζ (σ υ m.id)/\w.cell? ⟨x,1,ε⟩=ζ (σ υ m.fr)/\w.cell? ⟨x,2,ε⟩=ζ (σ υ m.to)/\w.cell? ⟨x,8,ε⟩=ζ (σ υ m.n)/\w.cell? ⟨x,10,ε⟩=ζ (Γ sb):=by have z:=d.p.mv n C;have y:=(d.p.part n C).v;rw[E]at z;obtain⟨g,D,J,j,_⟩:=z;rw[I]at D y;cases D;refine⟨y,by simp[aa,j,qw],by simp[aa,j,qw],by simp[aa,j,qw],by simp[aa,j,qw],?_⟩;rw[<-qx H];simp[aa,j,qw]
theorem RpW.none {f:Fr} {fb:dw} (d:RpW w0 F A s f fb w) (z:n<4) (C:s.mv n=ε):w.cell? ⟨A.cl,1+n*3+2,ε⟩=ζ (.pointer ε):=by have j:=d.p.mv n z;have y:=(d.p.part n z).v;rw[C]at j;rw[j.1]at y;exact y
theorem RpW.idle {f:Fr} {fb:dw} {v:ai} (d:RpW w0 F A s f fb w) (y:zx w0 F A s) (j:But (λ_=>iO) w w'):kD w0 F A v s (ψ v) w':=.idleB y (d.b.trans j)
theorem RpW.post {f:Fr} {fb:dw} {v v':ai} {s':St} {e:Ending} (d:RpW w0 F A s f fb w) (h:kD w F A v s' e w'):kD w0 F A v' s' (ψ v') w':=by obtain⟨_,j,y,z,C⟩:=h;exact⟨lc,j,y,z.mono λb e=>e.imp id λe=>xlt d.b.size e,(d.b.mono λ_ x=>x.elim).trans C⟩
end
section
variable {e:Operand->ai} {o:Oper} {p q:Operand} {v:ai} {g f k:dw} {w:ae}
theorem QF (f:dw) (E:f<3) (h:o.op=.fieldAddr 104 p f) (y:e p=ξ (ζ ⟨g,k,ε⟩)):(execOp e o).run prog w=.ok (.value (ξ (ζ ⟨g,k+f,ε⟩))) w:=by
 have z:=underlying104;have C:f=0\/f=1\/f=2:=by omega
 have D:∀j,(⟨g,k,ε⟩:Addr).add j=⟨g,k+j,ε⟩:=λj=>Addr.add_lit ..;unfold execOp;rcases C with rfl|rfl|rfl<;>simp[go_sem,h,y,z,D]
theorem MP:∃i,prog.info? 60=ζ i/\i.zero=ζ (Θ #[Γ ⟨#[]⟩,Γ ⟨#[]⟩,χ θ])/\i.size=3/\i.bytes=40:=by
 have h:(prog.info? 60).map (λi=>(i.zero,i.size,i.bytes))=ζ (ζ (Θ #[Γ ⟨#[]⟩,Γ ⟨#[]⟩,χ θ]),3,40):=by kernel_rfl
 obtain⟨i,z,j⟩:=aU.1 h;injection j with j y;injection y with y C;exact⟨i,z,j,y,C⟩
end
theorem jeh (y:dw->ai):lay 94 y=#[y 0,y 1,y 2,y 3,y 4,y 5,y 6,y 7,y 8,y 9,y 10,y 11,y 12,y 13,y 14,y 15,y 16,y 17,y 18,y 19,y 20,y 21,y 22,y 23,y 24,y 25,y 26,y 27,y 28,y 29,y 30,y 31,y 32,y 33,y 34,y 35,y 36,y 37,y 38,y 39,y 40,y 41,y 42,y 43,y 44,y 45,y 46,y 47,y 48,y 49,y 50,y 51,y 52,y 53,y 54,y 55,y 56,y 57,y 58,y 59,y 60,y 61,y 62,y 63,y 64,y 65,y 66,y 67,y 68,y 69,y 70,y 71,y 72,y 73,y 74,y 75,y 76,y 77,y 78,y 79,y 80,y 81,y 82,y 83,y 84,y 85,y 86,y 87,y 88,y 89,y 90,y 91,y 92,y 93]:=rfl
noncomputable def rgc (b:Code) (k:dw):Code:=match k with
 |0=>b
 |k+1=>match b with
  |.seq _ c=>rgc c k
  |c=>c
noncomputable def dg1:kw Oper:=match rgc ((Tryz.f24.body).getD .skip) 10 with
 |.seq (.seq _ (.cond _ a _)) _=>rg a
 |_=>#[]
section
variable {sb cb n x:dw} {pv cv:ai} {m:Mv} {k v:bn} {g:jb}
theorem RX.RY {w3:ae} {j off cap H:dw} {c:Chg} (h:RX x pv cv m w) (o:Obj) (N:w1=(w.alloc o).drew) (z:w1.grownBy w3 cv.ownBlock) (S:jo w3 60 3 (Δ (ζ ⟨j,off,ε⟩) (m.cs.length+1) cap) (m.cs.length+1) (kg m.cs++[sv c.k,sv c.v,χ c.g])) (M:cv.ownBlock=ζ j\/j=H) (V:w1.heap.size=H):
  w3.cell? ⟨x,4,ε⟩=ζ cv/\w3.frozen? ⟨x,4,ε⟩=θ/\(RX x pv (Δ (ζ ⟨j,off,ε⟩) (m.cs.length+1) cap) {m with cs:=m.cs++[c]} (w3.setCell ⟨x,4,ε⟩ (Δ (ζ ⟨j,off,ε⟩) (m.cs.length+1) cap)))/\
   (∀b,(Value.slice (ζ ⟨j,off,ε⟩) (m.cs.length+1) cap).ownBlock=ζ b->cv.ownBlock=ζ b\/w.heap.size<=b)/\But (λq=>q=x\/cv.ownBlock=ζ q) w (w3.setCell ⟨x,4,ε⟩ (Δ (ζ ⟨j,off,ε⟩) (m.cs.length+1) cap)):=by
 have P:=h.lt;have C:But (λ_=>iO) w w1:=by subst N;exact⟨by simp,λb y _=>aD w o y,lc,lc⟩
 have U:=C.size;have I:ζ x≠cv.ownBlock:=λe=>by obtain⟨T,J⟩:=jo.ty h.r e.symm;rw[h.b]at J;cases J
 have E:But (λb=>cv.ownBlock=ζ b) w w3:=⟨by have:=z.size;omega,λb y R=>(z.block b (by omega) λe=>R e.symm).trans (C.keep b y id),z.os.trans C.os,z.output.trans C.output⟩
 have D:=(E.keep x P λe=>I e.symm).trans h.b;have O:j≠x:=λe=>by rcases M with e2|e2;{exact I (by rw[e2,e])};omega
 refine⟨by simp[aa,D,qz],by simp[ay,D],⟨(xhs w3 x 4 _ _ _ D).trans lc,?_⟩,λb y=>?_,But.setCell (E.mono λb e=>.inr e) (.inl lc) 4 _⟩;{unfold pX;rw[show({m with cs:=m.cs++[c]}:Mv).cs=m.cs++[c]from lc,al,show kg (m.cs++[c])=kg m.cs++[sv c.k,sv c.v,χ c.g] by simp[kg]];exact S.block λb y=>xho _ _ _ _ λe=>O ((xoi y).trans e)};obtain rfl:=xoi y;exact M.imp id λe=>by show w.heap.size<=j;omega
theorem jfs {F:Func} (ht:t.size=94) (I:t.getD 3 aX=ξ (ζ ⟨cb,0,ε⟩)) (J:t.getD 6 aX=ξ (ζ ⟨sb,n*3,ε⟩))
  (M:RX x pv cv m w) (T:w.cell? ⟨sb,n*3+2,ε⟩=ζ (ξ (ζ ⟨x,0,ε⟩))) (c0:w.cell? ⟨cb,0,ε⟩=ζ (Γ k)) (c1:w.cell? ⟨cb,1,ε⟩=ζ (Γ v)) (c2:w.cell? ⟨cb,2,ε⟩=ζ (χ g)) (mG:cv.ownBlock≠ζ sb) (iw:m.cs.length<=1073741820)
  (R:∀y w' C,RX x pv C {m with cs:=m.cs++[AX k v g]} w'->(∀b,C.ownBlock=ζ b->cv.ownBlock=ζ b\/w.heap.size<=b)->But (λq=>q=x\/cv.ownBlock=ζ q) w w'->K ⟨lay 94 y,[]⟩ w'):(aK 16 dg1 η).wp prog (Exit.then K (bodyPost prog F PP)) ⟨t,[]⟩ w:=by
 have e:lay 94 (λj=>t.getD j aX)=t:=by apply Array.ext;{simp[lay,ht]};intro i h1 h2;simp[lay,Array.getD,h2]
 rw[<-e];clear e;obtain⟨z,D⟩:∃z:dw->ai,(λj=>t.getD j aX)=z:=⟨_,lc⟩
 have I:z 3=ξ (ζ ⟨cb,0,ε⟩):=by rw[<-D];exact I
 have J:z 6=ξ (ζ ⟨sb,n*3,ε⟩):=by rw[<-D];exact J
 rw[D];clear D;obtain⟨z,rfl⟩:=ql I;obtain⟨z,rfl⟩:=ql (x:=z) (j:=6) (v:=ξ (ζ ⟨sb,n*3,ε⟩)) J;clear I J;have N:=Hd M;have HQ:=Hd R;have m4:=M.cells.1;have l1:=M.lt;have l2:=xbl w _ T;have l3:=xbl w _ c0;obtain⟨ci,U,V,Y,Z⟩:=MP;have H:=Hd (ac U (ac V (ac Y Z)));clear M R U V Y Z;rw[jeh];unfold dg1;simp only[Tryz.f24,az,rg,rgc,upd,aj,gY,gJ];go_region_law (refine Yx _ lc (.tmp 88) (.tmp 90) 108 lc 60 ci _ 3 40 underlying108 H.1 H.2.1 H.2.2.1 H.2.2.2 lc cv m.cs.length (kg m.cs) lc (N.r.block λb hb=>aD w _ (jo.lt N.r hb)) ⟨w.heap.size,0,ε⟩ 1 [Γ k,Γ v,χ g] lc lc (cells3 w _ _ _ _) (by intro u S;simp at S;rcases S with rfl|rfl|rfl<;>rfl) (by unfold bF;omega) (by omega) _ lc ?_;intro gb off cap w3 P O iL;rw[<-tX k,<-tX v]at P;have E:=Hd (RX.RY (c:=AX k v g) N.o _ lc O P iL lc);obtain⟨d3,e3,_⟩:=E.o;have f3:=(xcb (a:=⟨sb,n*3+2,ε⟩) (w:=w) ((O.block sb (by simp;exact Nat.lt_succ_of_lt l2) λe=>mG e.symm).trans (aD w _ l2))).trans T;clear P O iL);all_goals exact Y0 lc (HQ.o _ _ _ E.2.2.1 E.2.2.2.1 E.2.2.2.2)
end
def Bn (L:KV) (k v:Bs) (g:jb):gF:=if 12<v.length then 3 else if !g&&!(jh L k).isSome&&ν (12<=L.length)then 4 else if g&&!(jh L k).isSome then 6 else 0
def GX (L:KV) (k v:Bs) (g:jb):KV:=if Bn L k v g=0 then(if g then lI L k else nN L k v)else L
def GV (L:KV) (cs:je Chg) (k v:bn) (g:jb):je Chg:=if Bn L k.data.toList v.data.toList g=0 then cs++[AX k v g]else cs
def tQ (s:St) (k v:bn) (g:jb):gF:=if jN k.data.toList then(if pJ (s.mv (q9 k.data.toList))then(if 12<v.data.toList.length then 3 else 5)else Bn (s.kv (q9 k.data.toList)) k.data.toList v.data.toList g)else 2
def qQ (s:St) (k v:bn) (g:jb):St:=if jN k.data.toList&&!pJ (s.mv (q9 k.data.toList))then{s with kv:=vv s.kv (q9 k.data.toList) (GX (s.kv (q9 k.data.toList)) k.data.toList v.data.toList g),mv:=qf s.mv (q9 k.data.toList) ((s.mv (q9 k.data.toList)).map λm=>{m with cs:=GV (s.kv (q9 k.data.toList)) m.cs k v g})}else s
def jU (w:ae) (G:dw->Prop) (B:MA) (v:ai) (t':St) (e:Ending) (w':ae):Prop:=e=ψ v/\∃B':MA,B'.ml=B.ml/\ku w' (λb=>G b\/w.heap.size<=b) B' t'/\But G w w'
section
variable {w w':ae} {G:dw->Prop} {B:MA} {s:St} {n x:dw} {m:Mv}
theorem jU.idle {v:ai} (h:ku w G B s) (j:aC w.heap.size w w'):jU w G B v s (ψ v) w':=⟨lc,B,lc,(h.below j).mono λ_ h=>.inl h,il j⟩
theorem q4e {W:ae} {k:bn} {y:bn} {A C:Prop} (h:A/\C/\Hid (ku w1 G B s/\CA W.heap.size k y g w1/\aC W.heap.size W w1/\W.heap.size<w1.heap.size)) (D:n<4) (E:(s.kv n).length<=16777216):
  aE prog 51 #[B.lv n,Γ k] w1 λe w'=>(e=ψ (ο #[σ υ (qB (s.kv n) k.data.toList),χ (pI (s.kv n) k.data.toList)]))/\ku w' G B s/\CA W.heap.size k y g w'/\aC W.heap.size W w'/\W.heap.size<w'.heap.size:=
 (Pt (h.2.2.out.1.r n D).1.1 (by omega) k).mono λe w' ⟨z,j⟩=>⟨z,h.2.2.out.1.below j,⟨(j.cell h.2.2.out.2.2.2).trans h.2.2.out.2.1.c0,(j.cell h.2.2.out.2.2.2).trans h.2.2.out.2.1.c1,(j.cell h.2.2.out.2.2.2).trans h.2.2.out.2.1.c2⟩,h.2.2.out.2.2.1.trans (j.mono h.2.2.out.2.2.1.size),xll h.2.2.out.2.2.2 j.size⟩
structure El (W:ae) (G:dw->Prop) (B:MA) (s:St) (k v:bn) (g:jb) (X:KV) (u:ai) (w:ae):Prop where
 m:ku w G B s
 r:yx w W.heap.size u X
 b:aC W.heap.size W w
 c:CA W.heap.size k v g w
theorem q47 {W:ae} {k v:bn} {sa:fo Addr} {cp:dw} (h:ku w1 G B s/\CA W.heap.size k v g w1/\aC W.heap.size W w1/\W.heap.size<w1.heap.size) (N:n<4) (O:B.lv n=.slice sa (s.kv n).length cp) (P:(s.kv n).length<=16777216) (I:yh (s.kv n)) (M:g=η->(jh (s.kv n) k.data.toList).isSome=η) (d:dw):
  aE prog 52 #[.slice sa (s.kv n).length cp,Θ #[Γ k,Γ v,χ g]] (w1.drewN d) λe w'=>∃z J y,e=ψ (.slice z J y)/\El W G B s k v g (if g then lI (s.kv n) k.data.toList else nN (s.kv n) k.data.toList v.data.toList) (.slice z J y) w':=by
 have D:ku (w1.drewN d) G B s:=h.1.below (Below.drewN' (qy _ _) d);have E:=(D.r n N).1;rw[O]at E;refine(q48 E (by omega) I k v g λe=>by rw[(Gm I k.data.toList).2.1];exact M e).mono ?_;rintro e w' ⟨R,rfl,C,j⟩;obtain⟨z,y,rfl⟩:=Jk C;have H:W.heap.size<=(w1.drewN d).heap.size:=h.2.2.1.size;exact⟨z,_,y,lc,D.below j,Bh C.1 C.2 H lc,(Below.drewN' h.2.2.1 d).trans (j.mono H),⟨(j.cell h.2.2.2).trans h.2.1.c0,(j.cell h.2.2.2).trans h.2.1.c1,(j.cell h.2.2.2).trans h.2.1.c2⟩⟩
theorem El.stored {W:ae} {k v:bn} (h:El W G B s k v g X u w) (y:n<4):ku (w.setCell ⟨B.sb,n*3+1,ε⟩ u) (λb=>G b\/W.heap.size<=b) {B with lv:=qf B.lv n u} {s with kv:=vv s.kv n X}:=
 (h.m.mono λ_ h=>.inl h).store y h.r.to0 λb j=>.inr (h.r.1.lt b j).1
theorem El.but {W:ae} {k v:bn} (h:El W G B s k v g X u w):But G W (w.setCell ⟨B.sb,n*3+1,ε⟩ u):=But.setCell (il h.b) h.m.sb.1 _ _
theorem El.ca {W:ae} {k v:bn} (h:El W G B s k v g X u w) (j:B.sb<W.heap.size):CA W.heap.size k v g (w.setCell ⟨B.sb,n*3+1,ε⟩ u):=by have e:(w.setCell ⟨B.sb,n*3+1,ε⟩ u).heap[W.heap.size]?=w.heap[W.heap.size]?:=xho w _ _ _ (by show W.heap.size≠B.sb;omega);exact⟨(xcb e).trans h.c.c0,(xcb e).trans h.c.c1,(xcb e).trans h.c.c2⟩
section
variable {k v:bn} {g b:jb} (hk:jN k.data.toList=η) (jH:q9 k.data.toList=n)
include hk jH
theorem Pq {c:gF} (y:pJ (s.mv n)=θ) (e:Bn (s.kv n) k.data.toList v.data.toList g=c) (j:c≠0):tQ s k v g=c/\qQ s k v g=s:=by simp only[tQ,qQ,GX,GV,hk,jH,y,e,j,gY,gJ,Bool.not_false,Bool.and_self,bh,true_and];rw[show vv s.kv n (s.kv n)=s.kv from QE s.kv n,show Option.map (λm:Mv=>{m with cs:=m.cs}) (s.mv n)=s.mv n by cases s.mv n<;>rfl,QE]
theorem chW (z:(jh (s.kv n) k.data.toList).isSome=b):
  ν ((12:gF)<v.size)=η/\tQ s k v g=3/\qQ s k v g=s\/ν ((12:gF)<v.size)=θ/\(pJ (s.mv n)=η/\tQ s k v g=5/\qQ s k v g=s\/pJ (s.mv n)=θ/\(g=θ/\b=θ/\ν ((12:gF)<=((s.kv n).length:gF))=η/\tQ s k v g=4/\qQ s k v g=s\/g=η/\b=θ/\tQ s k v g=6/\qQ s k v g=s\/
   (g=θ/\b=θ/\ν ((12:gF)<=((s.kv n).length:gF))=θ\/g=θ/\b=η\/g=η/\b=η)/\tQ s k v g=0/\qQ s k v g={s with kv:=vv s.kv n (if g then lI (s.kv n) k.data.toList else nN (s.kv n) k.data.toList v.data.toList),mv:=qf s.mv n ((s.mv n).map λm=>{m with cs:=m.cs++[AX k v g]})})):=by
 have y:v.data.toList.length=v.size:=by simp
 by_cases h1:12<v.size;{refine .inl ⟨by simp;omega,?_⟩;cases hs:pJ (s.mv n);{exact Pq hk jH hs (by unfold Bn;rw[y,gI h1]) (by decide)};simp[tQ,qQ,hk,jH,hs,h1]};refine .inr ⟨by simp;omega,?_⟩;cases hs:pJ (s.mv n)
 .have j:Bn (s.kv n) k.data.toList v.data.toList g=if !g&&!b&&ν (12<=(s.kv n).length)then 4 else if g&&!b then 6 else 0:=by unfold Bn;rw[y,eD h1,z]
  refine .inr ⟨lc,?_⟩;cases g<;>cases b;{by_cases h2:12<=(s.kv n).length;{exact .inl ⟨lc,lc,by simp;omega,Pq hk jH hs (j.trans (by simp[h2])) (by decide)⟩};have j:=j.trans (show _=0 by simp[h2]);exact .inr (.inr ⟨.inl ⟨lc,lc,by simp;omega⟩,by simp[tQ,hk,jH,hs,j],by simp[qQ,GX,GV,hk,jH,hs,j]⟩)};{exact .inr (.inr ⟨.inr (.inl ⟨lc,lc⟩),by simp[tQ,hk,jH,hs,j],by simp[qQ,GX,GV,hk,jH,hs,j]⟩)};{exact .inr (.inl ⟨lc,lc,Pq hk jH hs j (by decide)⟩)};exact .inr (.inr ⟨.inr (.inr ⟨lc,lc⟩),by simp[tQ,hk,jH,hs,j],by simp[qQ,GX,GV,hk,jH,hs,j]⟩)
 .refine .inl ⟨lc,?_⟩;simp[tQ,qQ,hk,jH,hs,h1]
end
theorem q1b (h:ku w G B s) (hl:∀i,i<4->(s.kv i).length<=16777216) (kU:∀i,i<4->yh (s.kv i)) (iw:∀i,i<4->∀m,s.mv i=ζ m->m.cs.length<=1073741820) (k v:bn) (g:jb):
  aE prog 24 #[ξ (ζ ⟨B.ml,0,ε⟩),Θ #[Γ k,Γ v,χ g]] w (jU w G B (σ υ (tQ s k v g)) (qQ s k v g)):=by
 cases hk:jN k.data.toList;{refine(qx6 (ml:=B.ml) k v g hk).mono λe w' ⟨h1,R⟩=>?_;unfold tQ qQ;rw[hk,h1];exact .idle h R};have j:=Jq k.data.toList;obtain⟨n,jH⟩:∃n,q9 k.data.toList=n:=⟨_,lc⟩
 rw[jH]at j;have hL:=hl n j;have pO:((n:gF)<4):=by omega
 have H:=Hd h;have HR:=Hd (kU n j);have Ua:=Hd (iw n j);have vT:=Hd h.ZL;have HW:=Hd (λb I=>chW (s:=s) (v:=v) (g:=g) (b:=b) hk jH I);clear h hl kU iw;go_enter func24,ntmps24;go_wp2_with (go_at_call 50;refine(Mc _ hk).mono ?_;rintro e w1 ⟨rfl,I⟩;rw[jH];have H1:=Hd (CA.of I);have M1:=Hd (H.below H1.2.1);have ms:w1.cell? ⟨B.ml,1,ε⟩=ζ (Δ (ζ ⟨B.sb,0,ε⟩) 4 B.cap):=(M1.cells 1 _ lc).1;obtain⟨m0,m1,m2,m3⟩:=M1.sbc j;obtain⟨c0,c1,c2⟩:=H1.1;clear I m0)
 go_region_held3 (λw'=>w'.cell? ⟨B.sb,n*3+1,ε⟩=ζ (B.lv n)/\w'.cell? ⟨w.heap.size,0,ε⟩=ζ (Γ k)/\Hid (ku w' G B s/\CA w.heap.size k v g w'/\aC w.heap.size w w'/\w.heap.size<w'.heap.size))
  (first|exact⟨m1,c0,Hd ⟨M1.below (Below.drew (qy _ _)),⟨c0,c1,c2⟩,H1.2.1.drew,H1.2.2⟩⟩|exact⟨(z.1.sbc j).2.1,z.2.1.c0,z⟩)
  (first|(go_at_call 51;refine(q4e (by assumption) j hL).mono ?_;rintro e w2 ⟨rfl,R⟩;have z:=Hd R;clear R))
 have HA:=Hd (Gm HR.o k.data.toList);rw[HA.2.1];obtain⟨has,iV⟩:∃b,(jh (s.kv n) k.data.toList).isSome=b:=⟨_,lc⟩
 rw[iV];have HF:=Hd iV;clear iV;obtain⟨sa,cp,hv⟩:=Jk (z.1.r n j).1;have HV:=Hd hv;obtain⟨e0,e1,e2⟩:=z.2.1;obtain⟨p0,p1,p2,p3⟩:=z.1.sbc j;rw[hv]at p1;clear hv p0;rcases fe:s.mv n with _|m;all_goals first
  |(have P:Hid (mpA (B.mp n)=ε):=Hd (by
    have h0:=H.mv n j;rw[fe]at h0
    rw[h0.1];rfl))
  |(obtain⟨x,hx,Y⟩:=H.rx j fe
    have P:Hid (mpA (B.mp n)=ζ ⟨x,0,ε⟩):=Hd (by rw[hx];rfl);have HX:=Hd Y;have N:=Hd hx;have q2:=(Y.below (z.2.2.1)).cells.2.1
    clear hx Y)
 all_goals
  rw[P.o]at p2;have C:=Hd fe;rcases HW.o _ HF.o with⟨g1,J⟩|⟨g1,⟨D,J⟩|⟨D,⟨rfl,rfl,g2,J⟩|⟨rfl,rfl,J⟩|⟨⟨rfl,rfl,g2⟩|⟨rfl,rfl⟩|⟨rfl,rfl⟩,J⟩⟩⟩
 all_goals try
  rw[fe]at D;cases D
 all_goals
  have HE:=Hd J;clear J;try(rw[fe]at D;replace D:m.sealed=_:=D;rw[D]at q2)
  go_wp2;try
   go_ret;rw[HE.1,HE.2];exact .idle H.o z.2.2.1
 all_goals
  go_region_with (first|(go_at_call 52;refine(q47 (d:=1) z.o j HV.o hL HR.o (λh=>by first|exact HF.o|cases h)).mono ?_;rintro e w3 ⟨rO,n3,sI,rfl,h3⟩;have E:=Hd h3;obtain⟨q0,q1,q2,q3⟩:=E.m.sbc j;rw[P.o]at q2;clear q0 h3))
  all_goals go_wp2
  all_goals first
   |(go_ret
     exact⟨by rw[HE.1];rfl,⟨B.ml,B.sb,qf B.lv n (.slice rO n3 sI),B.mp,B.pv,B.cv,B.sg,B.cap,B.sl⟩,lc,by rw[HE.2,C.o,show∀f:Mv->Mv,qf s.mv n (Option.map f ε)=s.mv from λf=>(congrArg (qf s.mv n) C.symm).trans (QE _ _)];exact E.stored j,E.but⟩)
   |(change aG _ (aK 16 dg1 η) _ _ _
     have M4:=Hd (E.stored j);have U:=Hd (M4.cvs j (m:=m) C.o);obtain⟨x4,V,O⟩:=M4.rx j (m:=m) C.o;have hx5:x4=x:=xoi (V.symm.trans N.o);subst hx5;obtain⟨_,_,S,_⟩:=M4.sbc j;have S:=S.trans (congrArg (λo=>ζ (Value.pointer o)) P.o);have T:=E.ca (n:=n) vT.o;have M:=Hd (E.but (n:=n));refine jfs (sb:=B.sb) (cb:=w.heap.size) (n:=n) (x:=x4) (pv:=B.pv n) (cv:=B.cv n) (m:=m) (k:=k) (v:=v) lc lc lc O S T.c0 T.c1 T.c2 U.1 (Ua.o m C.o) λy w4 Z yQ vK kV=>?_;rw[jeh];have H4:=Hd (M4.app j V C.o kV yQ vK);have lF:=Hd (M.trans (kV.mono λq hq=>by
      rcases hq with rfl|hq;{exact H.mpG j C.o N.o}
      .exact((H.cvs j C.o).2 q hq).1))
     clear yQ vK kV O V S T;go_wp2;go_ret;rw[HE.1,HE.2,C.o]
     exact⟨lc,⟨B.ml,B.sb,qf B.lv n (.slice rO n3 sI),B.mp,B.pv,qf B.cv n Z,B.sg,B.cap,B.sl⟩,lc,H4.mono λb I=>I.elim id λh=>.inr (xlt M.size h),lF.o⟩)
end
structure KvB (n:dw) (L:KV):Prop where
 ris:yh L
 len:L.length<=64*n
 fit:∀p∈L,p.1.length<=8/\p.2.length<=12
structure Cq (n:dw) (m:Mv):Prop where
 ps:m.ps.length<=64*n
 psf:∀p∈m.ps,p.1.length<=8/\p.2.length<=12
 cs:m.cs.length<=n
 csf:∀c∈m.cs,c.k.length<=8/\c.v.length<=12
 id:m.id<=n
 nn:m.n<=n
 to:m.to<4
 fr:m.fr<4
 ak:m.sent≠[]->Lv m
 sn:m.sent.length<=64
structure AL (n:dw) (x:Sg):Prop where
 kv:KvB n x.kv
 nx:x.next<=n+1
 id:x.id<=268435456
structure Ok3 (n:dw) (s:St):Prop where
 kv:∀i,i<4->KvB n (s.kv i)
 ow:∀i,i<4->s.ow i<4
 mv:∀i,i<4->∀m,s.mv i=ζ m->Cq n m
 id:s.id<=n
 ep:s.ep<=n
 hos:s.hosts<=4
 sg:∀h k,h<4->k<4->∀x,s.sg h k=ζ x->AL n x
theorem KvB.up (h:KvB n L) (k:n<=n'):KvB n' L:=⟨h.ris,xlt h.len (Nat.mul_le_mul_left 64 k),h.fit⟩
theorem Cq.up (h:Cq n m) (k:n<=n'):Cq n' m:=⟨xlt h.ps (Nat.mul_le_mul_left 64 k),h.psf,xlt h.cs k,h.csf,xlt h.id k,xlt h.nn k,h.to,h.fr,h.ak,h.sn⟩
theorem AL.up {x:Sg} (h:AL n x) (k:n<=n'):AL n' x:=⟨h.kv.up k,xlt h.nx (aB k),h.id⟩
theorem Ok3.up {s:St} (h:Ok3 n s) (k:n<=n'):Ok3 n' s:=⟨λi j=>(h.kv i j).up k,h.ow,λi j m C=>(h.mv i j m C).up k,xlt h.id k,xlt h.ep k,h.hos,λa b y z x D=>(h.sg a b y z x D).up k⟩
theorem KvB.put {k v:Bs} (h:KvB n L) (hk:k.length<=8) (j:v.length<=12):KvB (n+1) (nN L k v):=⟨X3 h.ris k v,by have:=YT L k v;have:=h.len;omega,λp hp=>by
 rcases jbm hp with rfl|hp;{exact⟨hk,j⟩}
 .exact h.fit p hp⟩
theorem KvB.del {k:Bs} (h:KvB n L):KvB (n+1) (lI L k):=⟨QI h.ris k,by have:=PE L k;have:=h.len;omega,λp j=>h.fit p (jbl j)⟩
section
variable {n:dw} {s:St}
theorem jby (E:2<=h) (y:h<=4):Ok3 n (F8 h):=⟨λi j=>⟨.nil,xzl _,λp C=>(by cases C)⟩,λi j=>by show i%h<4;have:=Nat.mod_lt i (show 0<h by omega);omega,λi j m z=>(by cases z),xzl _,xzl _,y,λa b H I x D=>(by cases D)⟩
theorem Ok3.set {q:dw} {o:fo Mv} (h:Ok3 n s) (z:q<4->KvB (n+1) L) (C:q<4->∀m,o=ζ m->Cq (n+1) m):Ok3 (n+1) {s with kv:=vv s.kv q L,mv:=qf s.mv q o}:=by have u:=h.up (am n);refine⟨λi y=>?_,u.ow,λi y m j=>?_,u.id,u.ep,u.hos,u.sg⟩;{show KvB _ (vv s.kv q L i);unfold vv;split;{rename_i e;subst e;exact z y};exact u.kv i y};have j:qf s.mv q o i=ζ m:=j;by_cases e:i=q;{subst e;rw[qj]at j;exact C y m j};rw[qh _ _ e]at j;exact u.mv i y m j
theorem Ok3.NM {q:dw} {o:fo Mv} (h:Ok3 n s) (j:q<4->∀m,o=ζ m->Cq (n+1) m):Ok3 (n+1) {s with mv:=qf s.mv q o}:=by
 have:=h.set (q:=q) (L:=s.kv q) (λy=>(h.kv q y).up (am n)) j;have e:vv s.kv q (s.kv q)=s.kv:=by funext i;unfold vv;split;(rename_i e;rw[e]);rfl
 rw[e]at this;exact this
theorem Ok3.setG {o:fo Sg} (D:Ok3 n s) (C:∀x,o=ζ x->AL (n+d) x):Ok3 (n+d) {s with sg:=vz s.sg h k o}:=by have u:=D.up (aS n d);refine⟨u.kv,u.ow,u.mv,u.id,u.ep,u.hos,λa b y z x j=>?_⟩;have j:vz s.sg h k o a b=ζ x:=j;by_cases e:a=h/\b=k;{obtain⟨rfl,rfl⟩:=e;rw[xq]at j;exact C x j};rw[jy e]at j;exact u.sg a b y z x j
theorem YK (D:Ok3 n s) (h:gF):Ok3 (n+1) (rsR s h):=by have u:=D.up (am n);unfold rsR;split;{exact u};refine⟨u.kv,u.ow,u.mv,u.id,u.ep,u.hos,λa b z C x j=>u.sg a b z C x ?_⟩;have j:rsF s.sg h.toNat a b=ζ x:=j;unfold rsF at j;split at j;{unfold rsK at j;split at j;{split at j;{rename_i y _;cases j;exact y};cases j};cases j};exact j
theorem VQ {k v:bn} {cs:Mv->je Chg} (h:Ok3 n s) (hk:jN k.data.toList=η) (I:L=s.kv (q9 k.data.toList)\/v.data.toList.length<=12/\L=if g then lI (s.kv (q9 k.data.toList)) k.data.toList else nN (s.kv (q9 k.data.toList)) k.data.toList v.data.toList) (hc:∀m,cs m=m.cs\/v.data.toList.length<=12/\cs m=m.cs++[AX k v g]):
  Ok3 (n+1) {s with kv:=vv s.kv (q9 k.data.toList) L,mv:=qf s.mv (q9 k.data.toList) ((s.mv (q9 k.data.toList)).map λm=>{m with cs:=cs m})}:=by
 have D:=Jq k.data.toList;have C:=(show k.data.toList.length<=8 by simp only[jN,aA,jC]at hk;exact hk.2.1)
 refine h.set (λ_=>?_) λ_ m J=>?_;{have j:=h.kv _ D;rcases I with e|⟨z,e⟩;{rw[e];exact j.up (am n)};rw[e];split;{exact j.del};exact j.put C z}
 .obtain⟨E,j,rfl⟩:=aU.1 J;have a:=h.mv _ D E j;have u:=a.up (am n);rcases hc E with e|⟨z,e⟩;{rw[e];exact u}
  .rw[e];exact⟨u.ps,u.psf,by have:=a.cs;simp;omega,λc hc=>by
    rcases bC.1 hc with hc|hc;{exact a.csf c hc}
    .rw[bi]at hc;subst hc;exact⟨C,z⟩,u.id,u.nn,u.to,u.fr,λy=>⟨λM=>(a.ak y).k2 M,λH=>by have:=(a.ak y).k3 H;simp;exact bp this⟩,u.sn⟩
theorem YP (h:Ok3 n s) (y z:bn) (g:jb):Ok3 (n+1) (chS s y z g):=by
 unfold chS;split
 .rename_i j;simp only[aA]at j;have key:∀L,rV L y.data.toList z.data.toList g=0->z.data.toList.length<=12:=λL h=>by unfold rV at h;split at h;{cases h};omega
  refine VQ (v:=z) (g:=g) h j.1 ?_ λm=>?_;{unfold chL;split;{rename_i e;exact .inr ⟨key _ e,lc⟩};exact .inl lc};unfold csL;split;{rename_i e;exact .inr ⟨key _ e,lc⟩};exact .inl lc
 .exact h.up (am n)
theorem jbx (h:Ok3 n s) (y z:bn) (g:jb):Ok3 (n+1) (qQ s y z g):=by
 unfold qQ;split
 .rename_i j;simp only[aA]at j;have key:∀L,Bn L y.data.toList z.data.toList g=0->z.data.toList.length<=12:=λL h=>by unfold Bn at h;split at h;{cases h};omega
  refine VQ (v:=z) (g:=g) h j.1 ?_ λm=>?_;{unfold GX;split;{rename_i e;exact .inr ⟨key _ e,lc⟩};exact .inl lc};unfold GV;split;{rename_i e;exact .inr ⟨key _ e,lc⟩};exact .inl lc
 .exact h.up (am n)
theorem YQ (h:Ok3 n s) (y:to<4):Ok3 (n+1) (bgS s k to):=by
 have:=h.NM (q:=k) (o:=ζ (bgM s k to)) λj m C=>by cases C;exact⟨((h.kv k j).up (am n)).len,(h.kv k j).fit,xzl _,λc z=>(by cases z),aB h.id,xzl _,y,h.ow k j,λe=>gU lc e,xzl _⟩
 exact⟨this.kv,this.ow,this.mv,aB h.id,this.ep,this.hos,this.sg⟩
theorem YN (h:Ok3 n s) (k to:gF):Ok3 (n+1) (mvS s k to):=by
 unfold mvS;split
 .rename_i e;refine YQ h ?_;have:=h.hos;unfold mvE at e;repeat' split at e
  all_goals omega
 .exact h.up (am n)
theorem YR (h:Ok3 n s) (k:gF):Ok3 (n+1) (abS s k):=by
 unfold abS;repeat' split
 all_goals first|exact h.up (am n)|exact h.NM λ_ m j=>by cases j
theorem Pk (k sh id n:dw) {l:Bs} (E:l.length<=43) (j:id<34359738368) (y:n<34359738368):(Fr.bytes ⟨k,sh,id,n,l⟩).length<=64:=by have z:=vo 4 id j;have C:=vo 4 n y;have D:=vo 0 l.length (by omega);simp only[Fr.bytes,Fr.body,zo,al,bA,aW,le4];omega
theorem Vv (h:Cq n m) (M:n<=262144):(nfL m).length<=43:=by
 have c:=h.cs;have p:=h.ps;obtain⟨j,J,z,_,E⟩:=Nl m.ps [] [] 0;have H:=E (by decide) (λ_=>lc) (by decide) h.psf;obtain⟨i,I,y,_,C⟩:=Nk m.cs [] 0;have D:=C (by decide) (λ_=>lc) h.csf;simp only[List.nil_append,aV]at z H y D;have N:=vo 3 j (by omega);have O:=vo 3 i (by omega);unfold nfL l7 l6;rw[z,y];repeat' split
 all_goals simp only[al,aW]
 all_goals omega
theorem Y4 (h:Cq n m):Lv {m with kind:=nfK m,parts:=nfP m}:=by
 obtain⟨j,D,z,_,_⟩:=Nl m.ps [] [] 0;obtain⟨i,C,y,_,_⟩:=Nk m.cs [] 0;simp only[List.nil_append,aV]at z y;constructor
 .intro e;have e:nfK m=2:=e;show nfP m<=m.ps.length;unfold nfK at e;unfold nfP l7 l6;rw[z,y];repeat' split at e
  all_goals first|cases e|skip
  simp_all
 .intro e;have e:nfK m=3:=e;show nfP m<=m.cs.length;unfold nfK at e;unfold nfP l7 l6;rw[z,y];repeat' split at e
  all_goals first|cases e|skip
  simp_all
theorem YM (h:Ok3 n s) (y:n<=262144) (k:gF):Ok3 (n+1) (nfS s k):=by have u:=h.up (am n);unfold nfS;split;{exact u};split;{exact u};split;{rename_i m j _;refine h.NM λz m' C=>?_;cases C;have a:=h.mv _ z m j;have b:=a.up (am n);have D:=a.id;have E:=a.nn;exact⟨b.ps,b.psf,b.cs,b.csf,b.id,b.nn,b.to,b.fr,λ_=>⟨(Y4 a).k2,(Y4 a).k3⟩,Pk _ _ _ _ (Vv a y) (by omega) (by omega)⟩};exact u
theorem jgw (h:Ok3 n s) (hk:k<4) (P:s.mv k=ζ m):Ok3 (n+1) (akS s k m):=by
 have u:=h.up (am n);have a:=u.mv k hk m P;have J:=(h.mv k hk m P).nn;unfold akS;split
 .unfold hoS;have M:∀x,hoK s k m=ζ x->AL (n+1) x:=λx E=>by
   unfold hoK at E;repeat' split at E
   all_goals first|cases E|skip
   rename_i y N _;exact u.sg _ _ a.to hk _ N
  refine⟨λi H=>?_,λi H=>?_,λi H m' D=>?_,u.id,aB h.ep,u.hos,λx y E N z C=>?_⟩;{show KvB _ (vv s.kv k _ i);unfold vv;split;{split;{rename_i x E;exact(M x E).kv};exact⟨.nil,xzl _,λp I=>(by cases I)⟩};exact u.kv i H};{show qf s.ow k m.to i<4;by_cases e:i=k;{subst e;rw[qj];exact a.to};rw[qh _ _ e];exact u.ow i H};{have D:qf s.mv k ε i=ζ m':=D;by_cases e:i=k;{subst e;rw[qj]at D;cases D};rw[qh _ _ e]at D;exact u.mv i H m' D}
  .refine u.sg x y E N z ?_;cases hk:hoK s k m with
   |none=>rw[hk]at C;exact C
   |some x0=>rw[hk]at C;have C:vz s.sg m.to k ε x y=ζ z:=C;by_cases e:x=m.to/\y=k;{obtain⟨rfl,rfl⟩:=e;rw[xq]at C;cases C};rwa [jy e]at C
 .refine h.NM λ_ m' D=>?_;cases D;have O:∀{α:Type} (l:je α) (j:dw),(l.drop j).length<=l.length:=λl j=>by rw[aR];omega
  unfold akM;repeat' split
  .exact⟨xlt (O _ _) a.ps,λp I=>a.psf p (List.mem_of_mem_drop I),a.cs,a.csf,a.id,aB J,a.to,a.fr,λe=>gU lc e,xzl _⟩
  .exact⟨a.ps,a.psf,xlt (O _ _) a.cs,λp I=>a.csf p (List.mem_of_mem_drop I),a.id,aB J,a.to,a.fr,λe=>gU lc e,xzl _⟩
  .exact⟨a.ps,a.psf,a.cs,a.csf,a.id,aB J,a.to,a.fr,λe=>gU lc e,xzl _⟩
theorem YL (h:Ok3 n s) (k:gF) (u:Bs):Ok3 (n+1) (rpS s k u):=by have j:=h.up (am n);unfold rpS;split;{exact j};split;{exact j};unfold rpF;split;{rename_i y;split;{exact j};rename_i m z;split;{split;{exact YQ h (h.mv _ y.1 m z).to};split;{exact jgw h y.1 z};exact j};exact j};exact j
theorem jft {c:Chg} (h:KvB n L) (hk:c.k.length<=8) (j:c.v.length<=12):yh (doL L c)/\(doL L c).length<=L.length+1/\∀p∈doL L c,p.1.length<=8/\p.2.length<=12:=by unfold doL;split;{exact⟨h.del.ris,bp (PE _ _),h.del.fit⟩};exact⟨(h.put hk j).ris,YT _ _ _,(h.put hk j).fit⟩
theorem WA:∀(cs:je Chg) (L:KV),yh L->(∀p∈L,p.1.length<=8/\p.2.length<=12)->(∀c∈cs,c.k.length<=8/\c.v.length<=12)->yh (cs.foldl doL L)/\(cs.foldl doL L).length<=L.length+cs.length/\∀p∈cs.foldl doL L,p.1.length<=8/\p.2.length<=12
 |[],L,h1,h2,_=>⟨h1,jg _,h2⟩
 |c::cs,L,h1,h2,h3=>by obtain⟨a,b,d⟩:=jft (n:=L.length) (c:=c) ⟨h1,by omega,h2⟩ (h3 c (.head _)).1 (h3 c (.head _)).2;obtain⟨x,y,z⟩:=WA cs (doL L c) a d λq j=>h3 q (.tail _ j);exact⟨x,by simp only[List.foldl_cons,bA];omega,z⟩
theorem q83 {kd sh:dw} {ld:Bs} (h:KvB n L) (C:ld.length<=64*d):KvB (n+d) (qV kd sh ld L).2.1:=by have u:KvB (n+d) L:=h.up (aS n d);unfold qV;split;{exact u};split;{exact u};rename_i cs j;obtain⟨a,b⟩:=Qg j;obtain⟨x,y,z⟩:=WA cs L h.ris h.fit λc j=>q5j (a c j);have:=h.len;exact⟨x,by show(cs.foldl doL L).length<=_;omega,z⟩
theorem YO (z:Ok3 n s) (h:gF) (u:Bs) (S:1<=d) (I:u.length<=64*d):Ok3 (n+d) (dlR s h u).2:=by
 have up:=z.up (aS n d);unfold dlR;split;{exact up}
 .split;{exact up}
  .rename_i f O;obtain⟨e,C⟩:=MO O;have N:f.load.length<=64*d:=by rw[e]at I;simp only[Fr.bytes,Fr.body,zo,al]at I;omega
   split
   .rename_i H;have M:f.qb<4:=by simp only[Cj,aA,jC]at H;exact H.1.1
    have E:h.toNat<4:=by have:=z.hos;omega
    refine z.setG λx j=>?_;have old:∀y,s.sg h.toNat f.qb=ζ y->AL n y/\AL (n+d) y:=λy J=>⟨z.sg _ _ E M y J,up.sg _ _ E M y J⟩
    have new:AL (n+d) ⟨f.id,1,[],θ⟩:=⟨⟨.nil,xzl _,λp P=>(by cases P)⟩,by show 1<=_;omega,by have:=C.id;show f.id<=_;omega⟩
    generalize s.sg h.toNat f.qb=o at j old;unfold dlF at j;cases o with
    |none=>
     simp only at j;repeat' split at j
     all_goals first|cases j|skip
     all_goals exact new
    |some y=>
     obtain⟨D,R⟩:=old y lc;simp only at j;repeat' split at j
     all_goals cases j
     all_goals first|exact R|exact new|skip
     exact⟨q83 D.kv N,by have:=D.nx;show y.next+1<=_;omega,D.id⟩
   .exact up
end
end
end Ph
section
open Go.RowKit Go.Maps Ph
structure Even (n:dw) (c:Cst):Prop where
 s:Ok3 n c.s
 t:Ok3 n c.t
 h:c.t.hosts=c.s.hosts
theorem Even.up {c:Cst} (h:Even n c) (k:n<=n'):Even n' c:=⟨h.s.up k,h.t.up k,h.h⟩
section
variable {n:dw} {s:St}
theorem Ph.Ok3.len (h:Ok3 n s) (y:n<=262144):∀i,i<4->(s.kv i).length<=16777216:=λi j=>by have:=(h.kv i j).len;omega
theorem Ph.Ok3.ris (h:Ok3 n s):∀i,i<4->yh (s.kv i):=λi j=>(h.kv i j).ris
theorem Ph.Ok3.key (h:Ok3 n s):∀i,i<4->∀p∈s.kv i,p.1.length<=8:=λi j p y=>((h.kv i j).fit p y).1
theorem Ph.Ok3.cs (h:Ok3 n s) (z:n<=262144):∀i,i<4->∀m,s.mv i=ζ m->m.cs.length<=1073741820:=λi j m y=>by have:=(h.mv i j m y).cs;omega
theorem zx.clu {F:dw->Prop} {A:PA} (h:zx w F A s) (y:∀i,i<4->(s.kv i).length<=16777216):Clu w A.cl A.db A.mb s.kv:=⟨λi j=>⟨_,h.part i j⟩,h.mbi,y⟩
end
end
section
open Go.RowKit Go.Maps
section
variable {x:dw->ai} {w:ae} {Q:Exit->Act->ae->Prop} {o:OpV} {W ob:dw}
structure oH (n0:dw) (w:ae) (W n m:dw) (cs:je Cst) (ob:dw) (o:OpV):Prop where
 law:zy n0 w W n cs
 ev:∀c∈cs,Even n c
 op:w.heap[ob]?=ζ (.cells o.cells 30 (0,0))
 oo:∀c∈cs,¬c.own ob
 nm:n+1+o.u.size<=m
 m:m<=262144
 ok:Ph.OpV.Ok o
def jv (n0:dw) (w:ae) (W m:dw) (cs:je Cst) (w':ae):Prop:= ∃gD,zy n0 w' W m gD/\(∀c∈gD,Even m c)/\gD.length<=cs.length+1/\But (λb=>n0<=b) w w'
variable {n0 n m:dw} {cs:je Cst}
theorem oH.post (h:oH n0 w W n m cs ob o) (j:aC w.heap.size w w'):jv n0 w W m cs w':=by have:=h.nm;exact⟨cs,(h.law.below j).up (by omega),λc y=>(h.ev c y).up (by omega),by omega,il j⟩
theorem q80 (j:x 3=ξ (ζ ⟨ob,0,ε⟩)) (h:oH n0 w W n m cs ob o) (hk:o.k≠1) (y:Q .normal ⟨SS (upd (upd (upd x 19 (ξ (ζ ⟨ob,0,ε⟩))) 20 (σ υ o.k)) 21 (χ θ)),[]⟩ w):aG prog tN Q ⟨SS x,[]⟩ w:=by
 have c0:w.cell? ⟨ob,0,ε⟩=ζ (σ υ o.k):=by simp[aa,h.op,OpV.cells]
 have z:(o.k==1)=θ:=by simpa using hk
 clear h hk;obtain⟨x,rfl⟩:=ql j;clear j;unfold tN tB SS;simp only[Tryz.f15,az,hd1,tl1,upd,aj,gY,gJ];go_wp2;exact y
theorem jnq (z:x 3=ξ (ζ ⟨ob,0,ε⟩)) (h:oH n0 w W n m cs ob o) (hk:o.k=1) (y:o.b<2\/4<o.b):aG prog tN (uX o.k (jv n0 w W m cs)) ⟨SS x,[]⟩ w:=by
 have c0:w.cell? ⟨ob,0,ε⟩=ζ (σ υ 1):=by simp[aa,h.op,OpV.cells,hk]
 have c2:w.cell? ⟨ob,2,ε⟩=ζ (σ υ o.b):=by simp[aa,h.op,OpV.cells]
 have H:=Hd h;have j:=Hd (ac y h.ok.b);clear h hk y;obtain⟨x,rfl⟩:=ql z;clear z;unfold tN tB SS;simp only[Tryz.f15,az,hd1,tl1,upd,aj,gY,gJ];go_wp2_with (first
  |(go_at_call 17;refine(jgn o.b j.1 j.2).mono ?_;rintro e w1 ⟨rfl,rfl⟩)
  |(go_at_call 22;refine(jcg o.b j.1 j.2).mono ?_;rintro e w1 ⟨rfl,rfl⟩))
 exact⟨⟨_,lc,λ_=>lc⟩,lc,H.post (qy _ _)⟩
end
end
section
open Go.RowKit Go.Maps Ph
section
variable {x:dw->ai} {w:ae} {Q:Exit->Act->ae->Prop} {o:OpV} {W ob n0 n nm:dw} {cs:je Cst}
theorem IK (w:ae) (a b:ai) (ty:aP):∀(j:dw) (u:ai),[a,b][j]?=ζ u->(w.alloc (ω #[a,b] ty)).cell? ((⟨w.heap.size,0,ε⟩:Addr).add j)=ζ u:=λj u y=>by
 rw[Addr.add_lit,aV];match j,y with
 |0,y=>simp at y;subst y;go_simp
 |1,y=>simp at y;subst y;go_simp
structure Eb (n0:dw) (w0 w:ae) (W n:dw) (cs:je Cst) (c:Cst) (CS:zQ) (S:ai) (m:dw) (bs:je Bs):Prop where
 lw:uY n0 w W n cs CS S m bs
 law:zy n0 w W n cs
 cst:oJ n0 w c
 ap:∀d∈cs,Apart d c
 off:∀b,Ct W CS S b\/nG w S b->¬c.own b
 even:Even n c
 below:aC w0.heap.size w0 w
theorem Eb.of {A:PA} {B:MA} {s:St} (h:zy n0 w W n cs) (M:zx w1 (λb=>w.heap.size<=b) A s) (D:aC w.heap.size w w1) (H:ku w2 (λb=>w1.heap.size<=b) B s) (E:aC w1.heap.size w1 w2) (J:Ok3 n s):
  ∃c C S m bs,c.A=A/\c.B=B/\Eb n0 w w2 W n cs c C S m bs:=by
 have j:aC w.heap.size w w2:=D.trans (E.mono D.size);have U:=h.below j;obtain⟨C,S,m,bs,y⟩:=h.b;have Y:=h.Cz;have z1:=D.size;have z2:=E.size;have z:∀b,(⟨A,B,λb=>w.heap.size<=b/\b<w1.heap.size,λb=>w1.heap.size<=b/\b<w2.heap.size,s,s⟩:Cst).own b->w.heap.size<=b/\b<w2.heap.size:=λb hb=>by rcases hb with hb|hb;{exact⟨hb.1,xll hb.2 z2⟩};exact⟨xlt z1 hb.1,hb.2⟩
 refine⟨⟨A,B,λb=>w.heap.size<=b/\b<w1.heap.size,λb=>w1.heap.size<=b/\b<w2.heap.size,s,s⟩,C,S,m,bs,lc,lc,y.idle (il j),U,⟨M.lts.frame λb hb=>E.block b hb.2,H.lts,λb hb=>⟨xlt Y (z b hb).1,(z b hb).2⟩,λb R T=>by have:=R.2;have:=T.1;omega⟩,λd P b Z I=>?_,λb hb I=>?_,⟨J,J,lc⟩,j⟩;{have M:=((h.each d P).lo b Z).2;have H:=(z b I).1;omega}
 .have H:=(z b I).1;rcases hb with hb|hb;{have:=y.lt hb;omega}
  .have N:nG w S b:=by obtain⟨xs,O⟩:=y.ls.row;unfold nG at hb|-;rw[EJ λq V=>j.block q (O.lt q V).2]at hb;exact hb
   have:=y.II N;omega
theorem Eb.cell {c:Cst} {j:zQ} {S:ai} {m:dw} {bs:je Bs} (h:Eb n0 w0 w W n cs c j S m bs):w.cell? ⟨W,0,ε⟩=ζ j.cs/\w.frozen? ⟨W,0,ε⟩=θ:=by obtain⟨cur,y,C,z,D⟩:=h.lw.ls.b;exact⟨by simp[aa,y,z],by simp[ay,y]⟩
theorem Eb.done {w0 w3:ae} {c:Cst} {j:zQ} {S v3:ai} {m:dw} {bs:je Bs} {y:Obj} (h:Eb n0 w0 w W n cs c j S m bs) (I:∀c∈cs,Even n c) (z:n<=nm) (J:(w.alloc y).grownBy w3 j.cs.ownBlock) (N:v3.ownBlock=j.cs.ownBlock\/v3.ownBlock=ζ (w.alloc y).heap.size) (M:w3.ownsRow n0 56 2 v3 (cs.length+1) (pF cs++[ξ (ζ ⟨c.A.cl,0,ε⟩),ξ (ζ ⟨c.B.ml,0,ε⟩)])):
  w3.cell? ⟨W,0,ε⟩=ζ j.cs/\w3.frozen? ⟨W,0,ε⟩=θ/\jv n0 w0 W nm cs (w3.setCell ⟨W,0,ε⟩ v3):=by
 obtain⟨C,D,E,H⟩:=h.law.add h.lw h.cst h.ap h.off J (λg e=>by
  rcases N with e2|e2;{left;rw[<-e2];exact e}
  .right;rw[e2]at e;cases e;simp) M
 refine⟨C,D,cs++[c],E.up z,λd hd=>Even.up ?_ z,by simp,(il (B:=λb=>n0<=b) h.below).trans H⟩;rcases bC.1 hd with hd|hd;{exact I d hd};rw[bi]at hd;subst hd;exact h.even
theorem jig (V:x 0=ξ (ζ ⟨W,0,ε⟩)) (jV:x 3=ξ (ζ ⟨ob,0,ε⟩)) (h:oH n0 w W n nm cs ob o) (hk:o.k=1) (z:o.b=(k:dw)) (T:2<=k) (U:k<=4) (hlen:cs.length<=4398046511103):aG prog tN (uX o.k (jv n0 w W nm cs)) ⟨SS x,[]⟩ w:=by
 have c0:w.cell? ⟨ob,0,ε⟩=ζ (σ υ 1):=by simp[aa,h.op,OpV.cells,hk]
 have c2:w.cell? ⟨ob,2,ε⟩=ζ (σ υ (k:dw)):=by simp[aa,h.op,OpV.cells,z]
 have H:=Hd h;have y:=Hd (ac T U);have R:=Hd hlen;clear h hk z T U hlen;obtain⟨x,rfl⟩:=ql V;obtain⟨x,rfl⟩:=ql (x:=x) (j:=3) (v:=ξ (ζ ⟨ob,0,ε⟩)) jV;clear jV V;obtain⟨pi,l1,l2,l3,l4⟩:=q19;have C:=Hd (ac l1 (ac l2 (ac l3 l4)));clear l1 l2 l3 l4;unfold tN tB SS;simp only[Tryz.f15,az,hd1,tl1,upd,aj,gY,gJ];go_wp2_with (first
  |(go_at_call 17;refine(q7x k y.1 y.2).mono ?_;rintro e w1 ⟨A,rfl,O,M⟩;have c2:=(M.cell (xbl w _ c2)).trans c2;have H1:=Hd (ac O M);clear O M)
  |(go_at_call 22;refine(q8b k y.1 y.2).mono ?_;rintro e w2 ⟨B,rfl,Y,z⟩;obtain⟨c,⟨_,bv,ov⟩,S,m,bs,rfl,rfl,D⟩:=Eb.of H.law H1.1 H1.2 Y z (Ph.jby y.1 y.2);obtain⟨sa,cp,J⟩:=ug D.lw.cr;replace J:_=_:=J;subst J;obtain⟨d0,d1⟩:=D.cell;have E:=Hd D;clear D Y z)
  |(at_builtin;(refine wpList_append_own_at _ lc (.tmp 55) (.tmp 59) 32 lc n0 56 pi _ 2 16 underlying32 C.1 C.2.1 C.2.2.1 C.2.2.2 lc (by decide) (.slice sa cs.length cp) cs.length (pF cs) lc (E.lw.cr.alloc _) ⟨w2.heap.size,0,ε⟩ 1 1 [ξ (ζ ⟨c.A.cl,0,ε⟩),ξ (ζ ⟨c.B.ml,0,ε⟩)] lc lc (IK w2 _ _ _) (by intro u Z;simp at Z;rcases Z with rfl|rfl<;>rfl) (by have:=R.o;unfold bF;omega) (by have:=R.o;omega) (by have a0:=E.law.Cz;simp;omega) ?_;intro v3 w3 I jQ _ N;have P:=Hd (E.done (nm:=nm) H.ev (by have:=H.nm;omega) jQ N I);obtain⟨rO,sI,nY⟩:=ug I;subst nY;obtain⟨d3,e3,_⟩:=P.o;clear I jQ N)))
 exact⟨⟨_,lc,λ_=>lc⟩,lc,P.2.2⟩
end
end
section
open Go.RowKit Go.Maps
def Jn (R:(dw->ai)->ae->Prop):Exit->Act->ae->Prop
 |.normal,a,w=>∃x,a=⟨SS x,[]⟩/\R x w
 |_,_,_=>iO
theorem LA (x:dw->ai):SS x=((List.range 224).map x).toArray:=rfl
theorem VZ (h:t.size=224):SS (λi=>t.getD i aX)=t:=by rw[LA];apply Array.ext;{simp[h]};intro i y j;simp[j]
theorem jn {R:(dw->ai)->ae->Prop} (h:t.size=224) (r:R (λi=>t.getD i aX) w):Jn R .normal ⟨t,[]⟩ w:=⟨_,by rw[VZ h],r⟩
section
variable {x:dw->ai} {w:ae} {Q:Exit->Act->ae->Prop} {o:OpV} {W ob n0 n m:dw} {cs:je Cst}
theorem oH.Rf (h:oH n0 w W n m cs ob o):∃y j,w.cell? ⟨W,0,ε⟩=ζ (.slice y cs.length j)/\w.ownsRow n0 56 2 (.slice y cs.length j) cs.length (pF cs):=by obtain⟨H,S,m,bs,D⟩:=h.law.b;have z:=D.cr;obtain⟨cur,E,_,C,_⟩:=D.ls.b;obtain⟨y,j,e⟩:=ug z;rw[e]at C z;exact⟨y,j,by simp[aa,E,C],z⟩
theorem jc7 (j:x 0=ξ (ζ ⟨W,0,ε⟩)) (h:oH n0 w W n m cs ob o) (hk:cs=[]):aG prog tEm (uX o.k (jv n0 w W m cs)) ⟨SS x,[]⟩ w:=by obtain⟨z,y,c0,_⟩:=h.Rf;have H:=Hd h;subst hk;clear h;simp only[aW]at c0;obtain⟨x,rfl⟩:=ql j;clear j;unfold tEm tB SS;simp only[Tryz.f15,az,hd1,tl1,upd,aj,gY,gJ];go_wp2;exact⟨⟨_,lc,λ_=>lc⟩,lc,H.post (qy _ _)⟩
theorem q8y (y:x 0=ξ (ζ ⟨W,0,ε⟩)) (z:x 3=ξ (ζ ⟨ob,0,ε⟩)) (h:oH n0 w W n m cs ob o) (hk:0<cs.length):
  aG prog tEm (Jn λx w'=>x 0=ξ (ζ ⟨W,0,ε⟩)/\x 3=ξ (ζ ⟨ob,0,ε⟩)/\w'=w) ⟨SS x,[]⟩ w:=by
 obtain⟨E,C,c0,_⟩:=h.Rf;have D:((cs.length:gF)==0)=θ:=by rw[beq_eq_false_iff_ne];omega
 clear h;obtain⟨x,rfl⟩:=ql y;obtain⟨x,rfl⟩:=ql (x:=x) (j:=3) (v:=ξ (ζ ⟨ob,0,ε⟩)) z;clear y z hk;unfold tEm tB SS;simp only[Tryz.f15,az,hd1,tl1,upd,aj,gY,gJ];go_wp2;exact jn lc ⟨lc,lc,lc⟩
theorem Wl {a:gF} {n:dw} (h:0<n):yA a n<n:=Nat.mod_lt _ h
structure jjs (w:ae) (g W ob k n cap:dw) (o:OpV) (c:Cst):Prop where
 c0:w.cell? ⟨W,0,ε⟩=ζ (Δ (ζ ⟨g,0,ε⟩) n cap)
 c1:w.cell? ⟨ob,1,ε⟩=ζ (σ υ o.a)
 e0:w.cell? ⟨g,k*2,ε⟩=ζ (ξ (ζ ⟨c.A.cl,0,ε⟩))
 e1:w.cell? ⟨g,k*2+1,ε⟩=ζ (ξ (ζ ⟨c.B.ml,0,ε⟩))
theorem oH.pick {c:Cst} (h:oH n0 w W n m cs ob o) (D:cs[k]?=ζ c):∃g j,jjs w g W ob k cs.length j o c:=by obtain⟨R,E,c0,y⟩:=h.Rf;have O:=(aq.1 D).1;obtain⟨J,M⟩:=Wj cs k c D;rcases y.2 with⟨_,P⟩|⟨g,j,cur,e,_⟩;{omega};injection e with H N I;subst H;subst I;have z:=y.cells (g:=g) lc _ _ J;have C:=y.cells (g:=g) lc _ _ M;rw[Addr.add_lit,aV]at z C;exact⟨g,E,c0,by simp[aa,h.op,OpV.cells],z,C⟩
theorem q7v {w:ae} {a b c d:Addr} {x y z:ai} (o:Obj) (j:w.cell? a=ζ x) (C:w.cell? b=ζ y) (D:w.cell? c=ζ z) (E:w.cell? d=ζ u):
  (w.alloc o).cell? a=ζ x/\(w.alloc o).cell? b=ζ y/\(w.alloc o).cell? c=ζ z/\(w.alloc o).cell? d=ζ u:=by
 have H:=(qy w.heap.size w).alloc (jg _) o;have key:∀{e:Addr} {v:ai},w.cell? e=ζ v->(w.alloc o).cell? e=ζ v:=λ{e v} h=>(H.cell (xbl w _ h)).trans h;exact⟨key j,key C,key D,key E⟩
def Ei (w:ae) (pb:dw) (c:Cst):Prop:=w.heap[pb]?=ζ (ω #[ξ (ζ ⟨c.A.cl,0,ε⟩),ξ (ζ ⟨c.B.ml,0,ε⟩)] 56 (0,0))
theorem jnu {c:Cst} (H:x 0=ξ (ζ ⟨W,0,ε⟩)) (J:x 3=ξ (ζ ⟨ob,0,ε⟩)) (h:oH n0 w W n m cs ob o) (D:cs[yA o.a cs.length]?=ζ c) (I:cs.length<=4398046511104):
  aG prog tP (Jn λx w'=>x 0=ξ (ζ ⟨W,0,ε⟩)/\x 3=ξ (ζ ⟨ob,0,ε⟩)/\x 9=ξ (ζ ⟨w.heap.size,0,ε⟩)/\Ei w' w.heap.size c/\aC w.heap.size w w') ⟨SS x,[]⟩ w:=by
 have O:=(aq.1 D).1;obtain⟨g,y,c0,c1,z,C⟩:=h.pick D;have E:=Hd h.ok.a;have N:=Hd I;have H0:Hid (0<cs.length):=Hd (by omega);clear h I D;generalize cs.length=m at*;obtain⟨k,hk⟩:∃k,yA o.a m=k:=⟨_,lc⟩
 rw[hk]at O z C;have M:=Hd hk;have P:(k:gF)<(m:gF):=by omega
 have R:(0:gF)<=(k:gF):=by omega
 clear hk;obtain⟨x,rfl⟩:=ql H;obtain⟨x,rfl⟩:=ql (x:=x) (j:=3) (v:=ξ (ζ ⟨ob,0,ε⟩)) J;clear H J;unfold tP tB SS;simp only[Tryz.f15,az,hd1,tl1,upd,aj,gY,gJ];go_wp2;go_region_held3 (λw'=>w'.cell? ⟨W,0,ε⟩=ζ (Δ (ζ ⟨g,0,ε⟩) m y)/\w'.cell? ⟨ob,1,ε⟩=ζ (σ υ o.a)/\w'.cell? ⟨g,k*2,ε⟩=ζ (ξ (ζ ⟨c.A.cl,0,ε⟩))/\w'.cell? ⟨g,k*2+1,ε⟩=ζ (ξ (ζ ⟨c.B.ml,0,ε⟩)))
  (first|exact⟨c0,c1,z,C⟩|assumption|exact q7v _ c0 c1 z C)
  (first|(go_at_call 23;refine(YI _ _ H0.o N.o E.1 E.2).mono ?_;rintro e w1 ⟨rfl,rfl⟩;rw[M.o]))
 all_goals exact jn lc ⟨lc,lc,lc,aO _ _,((qy _ _).alloc (jg _) _).drew⟩
end
end
section
open Go.RowKit Go.Maps Ph
noncomputable def c1:Code->Code
 |.cond _ a _=>a
 |c=>c
noncomputable def c2:Code->Code
 |.cond _ _ b=>b
 |c=>c
noncomputable def blk:Code->Code
 |.block _ c=>c
 |c=>c
noncomputable def NJ:=hd1 (hd1 tM)
noncomputable def tK2:=blk (tl1 (hd1 tM))
noncomputable def tK3:=c2 (tl1 tK2)
noncomputable def tK4:=c2 (tl1 tK3)
noncomputable def tK5:=c2 (tl1 tK4)
noncomputable def tK6:=c2 (tl1 tK5)
noncomputable def NK:=c1 (tl1 tK2)
noncomputable def NQ:=c1 (tl1 tK3)
noncomputable def NP:=c1 (tl1 tK4)
noncomputable def Cu:=c1 (tl1 tK5)
noncomputable def tMv:=c1 (tl1 tK6)
noncomputable def tK7:=c2 (tl1 tK6)
noncomputable def tAb:=c1 (tl1 tK7)
noncomputable def tK8:=c2 (tl1 tK7)
noncomputable def tLk:=c1 (tl1 tK8)
structure SwW (n0:dw) (w:ae) (W n m:dw) (cs:je Cst) (ob pb k:dw) (o:OpV) (c:Cst):Prop where
 st:oH n0 w W n m cs ob o
 pr:Ei w pb c
 ck:cs[k]?=ζ c
 po:¬c.own pb
section
variable {x:dw->ai} {w w1:ae} {Q:Exit->Act->ae->Prop} {o:OpV} {W ob pb k n0 n m:dw} {cs:je Cst} {c:Cst}
theorem oH.below (h:oH n0 w W n m cs ob o) (j:aC w.heap.size w w1):oH n0 w1 W n m cs ob o:=⟨h.law.below j,h.ev,(j.block ob (j5 h.op).1).trans h.op,h.oo,h.nm,h.m,h.ok⟩
theorem SwW.below (h:SwW n0 w W n m cs ob pb k o c) (j:aC w.heap.size w w1):SwW n0 w1 W n m cs ob pb k o c:=⟨h.st.below j,(j.block pb (j5 h.pr).1).trans h.pr,h.ck,h.po⟩
theorem SwW.mem (h:SwW n0 w W n m cs ob pb k o c):c∈cs:=aY h.ck
theorem SwW.cst (h:SwW n0 w W n m cs ob pb k o c):oJ n0 w c:=h.st.law.each c h.mem
theorem SwW.e (h:SwW n0 w W n m cs ob pb k o c):Even n c:=h.st.ev c h.mem
theorem SwW.nb (h:SwW n0 w W n m cs ob pb k o c):n<=262144/\n+1<=m:=by have:=h.st.nm;have:=h.st.m;omega
def SwC (w:ae) (ob pb:dw) (o:OpV) (c:Cst):Prop:=w.cell? ⟨pb,0,ε⟩=ζ (ξ (ζ ⟨c.A.cl,0,ε⟩))/\w.cell? ⟨pb,1,ε⟩=ζ (ξ (ζ ⟨c.B.ml,0,ε⟩))/\w.cell? ⟨ob,2,ε⟩=ζ (σ υ o.b)/\w.cell? ⟨ob,7,ε⟩=ζ (Γ o.s)/\w.cell? ⟨ob,8,ε⟩=ζ (Γ o.t)/\w.cell? ⟨ob,3,ε⟩=ζ (σ υ o.c)
theorem swc (h:Ei w pb c) (j:w.heap[ob]?=ζ (.cells o.cells 30 (0,0))):SwC w ob pb o c:=
 ⟨by simp[aa,show w.heap[pb]?=_ from h],by simp[aa,show w.heap[pb]?=_ from h],by simp[aa,j,OpV.cells],by simp[aa,j,OpV.cells],by simp[aa,j,OpV.cells],by simp[aa,j,OpV.cells]⟩
theorem SwW.cells (h:SwW n0 w W n m cs ob pb k o c):SwC w ob pb o c:=swc h.pr h.st.op
structure pY (n0:dw) (w0 w:ae) (W n m:dw) (cs:je Cst) (ob pb k:dw) (o:OpV) (c c':Cst):Prop where
 law:zy n0 w W n (cs.set k c')
 pr:Ei w pb c
 op:w.heap[ob]?=ζ (.cells o.cells 30 (0,0))
 but:But (λb=>n0<=b) w0 w
 t:c'.t=c.t
 s:Ok3 m c'.s/\c'.s.hosts=c.s.hosts
 ml:c'.B=c.B
 cl:c'.A.cl=c.A.cl
 oo:¬c'.own ob
 po:¬c'.own pb
theorem pY.cells {w0:ae} {j:Cst} (h:pY n0 w0 w W n m cs ob pb k o c j):SwC w ob pb o c:=swc h.pr h.op
theorem CO (h:SwW n0 w W n m cs ob pb k o c) (z:aC w.heap.size w w1) {f:FuncId} {args:kw ai} {v:ai} {s':St} (R:zx w1 c.F c.A c.s->aE prog f args w1 (Ph.kD w1 c.F c.A v s')) (P:Ok3 m s'/\s'.hosts=c.s.hosts):
  aE prog f args w1 λe w'=>e=ψ v/\∃M,pY n0 w w' W n m cs ob pb k o c M:=by
 have j:=h.below z;refine(R j.cst.p).mono λe w' ⟨N,C,D,O,y⟩=>⟨N,⟨C,c.B,λb=>(c.F b\/w1.heap.size<=b)/\b<w'.heap.size,c.G,s',c.t⟩,?_⟩
 have H:=j.st.oo c j.mem;have I:=(j5 j.st.op).1;have J:=(j5 j.pr).1;have new:∀b,b<w1.heap.size->¬c.own b->¬(⟨C,c.B,λb=>(c.F b\/w1.heap.size<=b)/\b<w'.heap.size,c.G,s',c.t⟩:Cst).own b:=λb z E ho=>by rcases ho with⟨ho|ho,_⟩|ho;{exact E (.inl ho)};{omega};exact E (.inr ho)
 exact⟨j.st.law.prog j.ck y O D,(y.keep pb J λx=>j.po (.inl x)).trans j.pr,(y.keep ob I λx=>H (.inl x)).trans j.st.op,(il (B:=λb=>n0<=b) z).trans (y.mono λb S=>(j.cst.lo b (.inl S)).1),lc,P,lc,D,new ob I H,new pb J j.po⟩
structure xE (n0:dw) (w0 w:ae) (W n m:dw) (cs:je Cst):Prop where
 l:∃gD,zy n0 w W n gD/\(∀c∈gD,Even m c)/\gD.length=cs.length
 but:But (λb=>n0<=b) w0 w
 le:n+1<=m
theorem xE.post (h:xE n0 w0 w W n m cs):jv n0 w0 W m cs w:=by obtain⟨j,y,z,C⟩:=h.l;have:=h.le;exact⟨j,y.up (by omega),z,by omega,h.but⟩
theorem Ep {j:Cst} (D:SwW n0 w0 W n m cs ob pb k o c) (h:pY n0 w0 w W n m cs ob pb k o c j) (y:aC w.heap.size w w1) {f:FuncId} {args:kw ai} {v:ai} {t':St} (R:ku w1 j.G c.B c.t->aE prog f args w1 (Ph.jU w1 j.G c.B v t')) (E:Ok3 m t'/\t'.hosts=c.t.hosts):
  aE prog f args w1 λe w'=>e=ψ v/\xE n0 w0 w' W n m cs/\SwC w' ob pb o c:=by
 have P:=(aq.1 D.ck).1;have J:(cs.set k j)[k]?=ζ j:=List.getElem?_set_self P;have H:=h.law.below y;have I:=H.each j (aY J);have T:ku w1 j.G c.B c.t:=by rw[<-h.t,<-h.ml];exact I.m
 have U:=D.nb.2;refine(R T).mono λe w' ⟨M,Z,N,O,C⟩=>⟨M,⟨⟨_,H.doc J C O (N.trans (by rw[h.ml])),λd hd=>?_,by simp⟩,h.but.trans ((il (B:=λb=>n0<=b) y).trans (C.mono λb S=>(I.lo b (.inr S)).1)),U⟩,?_⟩
 .rw[List.set_set]at hd;rcases List.mem_or_eq_of_mem_set hd with hd|hd;{exact(D.st.ev d hd).up (by omega)};subst hd;exact⟨h.s.1,E.1,by rw[show(Cst.t _).hosts=_ from E.2,show(Cst.s _).hosts=_ from h.s.2];exact D.e.h⟩
 .have V:=(j5 h.op).1;have Y:=(j5 h.pr).1;have z:=y.size;exact swc ((C.keep pb (by omega) λx=>h.po (.inr x)).trans ((y.block pb Y).trans h.pr)) ((C.keep ob (by omega) λx=>h.oo (.inr x)).trans ((y.block ob V).trans h.op))
theorem Qw (s:St) (y z:bn) (g:jb):(Ph.chS s y z g).hosts=s.hosts/\(Ph.qQ s y z g).hosts=s.hosts:=by unfold Ph.chS Ph.qQ;constructor<;>split<;>rfl
theorem jg7 (h:SwW n0 w W n m cs ob pb k o c) (y:aC w.heap.size w w1):
  aE prog 18 #[ξ (ζ ⟨c.A.cl,0,ε⟩),Γ o.s,Γ o.t] w1 λe w'=>e=ψ (σ υ (Ph.chE c.s o.s o.t θ))/\∃j,pY n0 w w' W n m cs ob pb k o c j:=
 CO h y (λz=>Ph.jg4 z (h.e.s.len h.nb.1) (h.e.s.cs h.nb.1) o.s o.t h.st.ok.s') ⟨(Ph.YP h.e.s ..).up h.nb.2,(Qw ..).1⟩
theorem jfr (h:SwW n0 w W n m cs ob pb k o c) (y:aC w.heap.size w w1):
  aE prog 25 #[ξ (ζ ⟨c.A.cl,0,ε⟩),Γ o.s] w1 λe w'=>e=ψ (σ υ (Ph.chE c.s o.s ⟨#[]⟩ η))/\∃j,pY n0 w w' W n m cs ob pb k o c j:=
 CO h y (λz=>Ph.q2c z (h.e.s.len h.nb.1) (h.e.s.cs h.nb.1) o.s h.st.ok.s') ⟨(Ph.YP h.e.s ..).up h.nb.2,(Qw ..).1⟩
theorem Zj {C:Cst} {y z:bn} (j:SwW n0 w0 W n m cs ob pb k o c) (h:pY n0 w0 w W n m cs ob pb k o c C) (D:aC w.heap.size w w1):
  aE prog 24 #[ξ (ζ ⟨c.B.ml,0,ε⟩),Θ #[Γ y,Γ z,χ g]] w1 λe w'=>e=ψ (σ υ (Ph.tQ c.t y z g))/\xE n0 w0 w' W n m cs/\SwC w' ob pb o c:=
 Ep j h D (λE=>Ph.q1b E (j.e.t.len j.nb.1) j.e.t.ris (j.e.t.cs j.nb.1) y z g) ⟨(Ph.jbx j.e.t ..).up j.nb.2,(Qw ..).2⟩
theorem jdd (E:x 3=ξ (ζ ⟨ob,0,ε⟩)) (D:x 9=ξ (ζ ⟨pb,0,ε⟩)) (h:SwW n0 w W n m cs ob pb k o c) (hk:o.k=2):aG prog NK (uX o.k (jv n0 w W m cs)) ⟨SS x,[]⟩ w:=by
 obtain⟨J,M,P,N,O,R⟩:=h.cells;have H:=Hd h;have I:=Hd hk;clear h hk;obtain⟨x,rfl⟩:=ql E;obtain⟨x,rfl⟩:=ql (x:=x) (j:=9) (v:=ξ (ζ ⟨pb,0,ε⟩)) D;clear E D;unfold NK tK2 tM tB SS;simp only[Tryz.f15,az,hd1,tl1,c1,c2,blk,upd,aj,gY,gJ];go_wp2;go_region_held3 (λw'=>w'.cell? ⟨pb,0,ε⟩=ζ (ξ (ζ ⟨c.A.cl,0,ε⟩))/\w'.cell? ⟨pb,1,ε⟩=ζ (ξ (ζ ⟨c.B.ml,0,ε⟩))/\w'.cell? ⟨ob,7,ε⟩=ζ (Γ o.s)/\w'.cell? ⟨ob,8,ε⟩=ζ (Γ o.t))
  (first|exact⟨J,M,N,O⟩|exact⟨H1.cells.1,H1.cells.2.1,H1.cells.2.2.2.1,H1.cells.2.2.2.2.1⟩|exact⟨y.2.1,y.2.2.1,y.2.2.2.2.1,y.2.2.2.2.2.1⟩)
  (first
   |(go_at_call 18;refine(jg7 H.o (by first|exact qy _ _|exact(qy _ _).drew)).mono ?_;rintro e w1 ⟨rfl,S,z⟩;have H1:=Hd z;clear z)
   |(go_at_call 24;refine(Zj H.o H1.o (by first|exact qy _ _|exact(qy _ _).drew)).mono ?_;rintro e w2 ⟨rfl,C⟩;have y:=Hd C;clear C))
 go_wp2;exact⟨⟨_,lc,λh=>by have:=I.o;omega⟩,lc,y.1.post⟩
theorem jc6 (E:x 3=ξ (ζ ⟨ob,0,ε⟩)) (D:x 9=ξ (ζ ⟨pb,0,ε⟩)) (h:SwW n0 w W n m cs ob pb k o c) (hk:o.k=3):aG prog NQ (uX o.k (jv n0 w W m cs)) ⟨SS x,[]⟩ w:=by
 obtain⟨J,M,O,N,P,R⟩:=h.cells;have H:=Hd h;have I:=Hd hk;clear h hk;obtain⟨x,rfl⟩:=ql E;obtain⟨x,rfl⟩:=ql (x:=x) (j:=9) (v:=ξ (ζ ⟨pb,0,ε⟩)) D;clear E D;unfold NQ tK3 tK2 tM tB SS;simp only[Tryz.f15,az,hd1,tl1,c1,c2,blk,upd,aj,gY,gJ];go_wp2;go_region_held3 (λw'=>w'.cell? ⟨pb,0,ε⟩=ζ (ξ (ζ ⟨c.A.cl,0,ε⟩))/\w'.cell? ⟨pb,1,ε⟩=ζ (ξ (ζ ⟨c.B.ml,0,ε⟩))/\w'.cell? ⟨ob,7,ε⟩=ζ (Γ o.s))
  (first|exact⟨J,M,N⟩|exact⟨H1.cells.1,H1.cells.2.1,H1.cells.2.2.2.1⟩|exact⟨y.2.1,y.2.2.1,y.2.2.2.2.1⟩)
  (first
   |(go_at_call 25;refine(jfr H.o (by first|exact qy _ _|exact(qy _ _).drew)).mono ?_;rintro e w1 ⟨rfl,S,z⟩;have H1:=Hd z;clear z)
   |(go_at_call 24;refine(Zj H.o H1.o (by first|exact qy _ _|exact(qy _ _).drew)).mono ?_;rintro e w2 ⟨rfl,C⟩;have y:=Hd C;clear C))
 go_wp2;exact⟨⟨_,lc,λh=>by have:=I.o;omega⟩,lc,y.1.post⟩
theorem oH.idle (h:oH n0 w W n m cs ob o) (j:But (λ_=>iO) w w1):oH n0 w1 W n m cs ob o:=⟨h.law.idle j,h.ev,(j.keep ob (j5 h.op).1 id).trans h.op,h.oo,h.nm,h.m,h.ok⟩
theorem SwW.idle (h:SwW n0 w W n m cs ob pb k o c) (j:But (λ_=>iO) w w1):SwW n0 w1 W n m cs ob pb k o c:=⟨h.st.idle j,(j.keep pb (j5 h.pr).1 id).trans h.pr,h.ck,h.po⟩
theorem jv.pre (h:jv n0 w1 W m cs w') (E:But (λb=>n0<=b) w w1):jv n0 w W m cs w':=by obtain⟨j,y,z,C,D⟩:=h;exact⟨j,y,z,C,E.trans D⟩
theorem jda (S:x 3=ξ (ζ ⟨ob,0,ε⟩)) (R:x 9=ξ (ζ ⟨pb,0,ε⟩)) (h:SwW n0 w W n m cs ob pb k o c) (hk:o.k=4):aG prog NP (uX o.k (jv n0 w W m cs)) ⟨SS x,[]⟩ w:=by
 obtain⟨Z,a2,D,a4,E,I⟩:=h.cells;have H:=Hd h;have V:=Hd hk;have Y:=Hd h.st.ok.s';clear h hk D E I;obtain⟨x,rfl⟩:=ql S;obtain⟨x,rfl⟩:=ql (x:=x) (j:=9) (v:=ξ (ζ ⟨pb,0,ε⟩)) R;clear S R;obtain⟨C,O⟩:∃C,sv (Ch c.s.kv o.s.data.toList)=Γ C:=⟨_,lc⟩
 obtain⟨z,U⟩:∃z,Ci c.s.kv o.s.data.toList=z:=⟨_,lc⟩
 obtain⟨gt,P⟩:∃C,sv (Ch c.t.kv o.s.data.toList)=Γ C:=⟨_,lc⟩
 obtain⟨gf,N⟩:∃z,Ci c.t.kv o.s.data.toList=z:=⟨_,lc⟩
 have y:=Hd (ac O (ac U (ac P N)));clear O U P N;unfold NP tK4 tK3 tK2 tM tB SS;simp only[Tryz.f15,az,hd1,tl1,c1,c2,blk,upd,aj,gY,gJ];go_wp2_with (first
  |(go_at_call 19;refine(ja3 (H.cst.p.clu (H.e.s.len H.nb.1)) o.s Y.o).mono ?_;rintro e w1 ⟨rfl,J⟩;have H1:=Hd (H.below J);obtain⟨Z,a2,D,a4,E,I⟩:=H1.cells;rw[y.1,y.2.1];have T:=Hd J;clear J D E I)
  |(go_at_call 26;refine(jhc o.s (H1.e.t.len H1.nb.1) H1.e.t.ris H1.cst.m.mdl).mono ?_;rintro e w2 ⟨rfl,M⟩;rw[y.2.2.1,y.2.2.2];have ig:=Hd M;clear M))
 all_goals exact⟨⟨_,lc,λh=>by have:=V.o;omega⟩,lc,H.st.post (T.trans (ig.mono T.size))⟩
variable {w2:ae} {base:dw} {v:ai} {l:KV}
def Low (w:ae) (W:dw) (cs:je Cst) (base:dw):Prop:=(∀c∈cs,∀b,c.own b->b<base)/\∀S,w.cell? ⟨W,2,ε⟩=ζ S->∀g,nG w S g->g<base
theorem zy.low (h:zy n0 w W n cs):Low w W cs w.heap.size:=⟨λc C b z=>((h.each c C).lo b z).2,λS j g D=>by
 obtain⟨E,H,m,bs,y⟩:=h.b;rw[y.ls.cell.1]at j;cases j
 exact y.II D⟩
theorem Low.idle (h:Low w W cs base) (E:zy n0 w W n cs) (z:But (λ_=>iO) w w1):Low w1 W cs base:=⟨h.1,λS y g j=>by
 obtain⟨J,M,m,bs,C⟩:=E.b;obtain⟨c1,_,D⟩:=C.ls.cell;have e:w1.cell? ⟨W,2,ε⟩=w.cell? ⟨W,2,ε⟩:=xcb (z.keep W D id);rw[e,c1]at y;cases y;obtain⟨N,I⟩:=C.ls.row;refine h.2 _ c1 g ?_;unfold nG at j|-;rw[EJ λq H=>z.keep q (I.lt q H).2 id]at j
 exact j⟩
theorem q6v (h:zy n0 w W n cs) (hn:n<=4398046511103) (D:w.ownsRow base 74 2 v l.length (flat l)) (hl:l.length<=1073741820) (Z:n0<=base) (T:base<=w.heap.size) (J:Low w W cs base):
  aE prog 30 #[ξ (ζ ⟨W,0,ε⟩),v] w λe w'=>(e=ψ (ο #[]))/\zy n0 w' W (n+1) cs/\But (λb=>n0<=b) w w':=by
 obtain⟨N,S,m,bs,z⟩:=h.b;have P:m<=4398046511103:=by have:=z.le.1;omega
 have R:∀j,N.out j->j<base:=λj E=>by rw[z.out]at E;obtain⟨c,I,M⟩:=E;exact J.1 c I j M
 have key:∀w',(∃O,mP n0 w' W N O (m+1)/\∀g,O.ownBlock=ζ g->S.ownBlock=ζ g\/w.heap.size<=g)->But (AZ W S v) w w'->zy n0 w' W (n+1) cs/\But (λb=>n0<=b) w w':=λw' C y=>by refine⟨h.jml z y D (λc I b M=>J.1 c I b M) C,y.mono λb V=>?_⟩;rcases V with e|e|e;{subst e;exact h.lo};{obtain⟨xs,hx⟩:=z.ls.row;exact(hx.lt b e).1};exact xlt Z (D.lt b e).1
 rcases D.2 with⟨e,hz⟩|⟨g,U,cur,e,_⟩;{subst e;exact(q6u z.ls P h.Cz λj E=>xll (R j E) T).mono λe w' ⟨C,y,H⟩=>⟨C,key w' y H⟩}
 .subst e;have sK:∀j,nG w S j->j≠g:=λj Y e=>by have C:=J.2 S z.ls.cell.1 j Y;have y:=(D.lt g lc).1;omega
  exact(q12 z.ls P D hl h.Cz sK R).mono λe w' ⟨C,y,H⟩=>⟨C,key w' y H⟩
def PZ (w:ae) (c:Cst) (o:OpV) (r:KV) (er:gF):Prop:=aE prog 28 #[ξ (ζ ⟨c.B.ml,0,ε⟩),Γ o.s,Γ o.t,σ υ o.b] w λe w'=>∃v' b',e=ψ (ο #[v',σ υ er])/\w'.ownsRow b' 74 2 v' r.length (flat r)/\aC w.heap.size w w'
theorem q82 {U fr:gF} {r:KV} (Y:x 0=ξ (ζ ⟨W,0,ε⟩)) (jV:x 3=ξ (ζ ⟨ob,0,ε⟩)) (iq:x 9=ξ (ζ ⟨pb,0,ε⟩)) (hv:x 14=v) (z:x 15=σ υ U) (h:SwW n0 w W n m cs ob pb k o c) (hk:o.k=5)
  (hr:w.ownsRow base 74 2 v l.length (flat l)) (hl:l.length<=1073741820) (Z:n0<=base) (P:base<=w.heap.size) (jS:Low w W cs base) (hd:PZ w c o r fr):aG prog (tl1 Cu) (uX o.k (jv n0 w W m cs)) ⟨SS x,[]⟩ w:=by
 obtain⟨a1,a2,a3,a4,a5,a6⟩:=h.cells;have H:=Hd h;have C:=Hd hr;have y:=Hd (ac hl (ac Z (ac jS hd)));have T:=Hd (ac P hk);clear h hr hl Z jS hd P hk a1 a6;obtain⟨x,rfl⟩:=ql Y;obtain⟨x,rfl⟩:=ql (x:=x) (j:=3) (v:=ξ (ζ ⟨ob,0,ε⟩)) jV;obtain⟨x,rfl⟩:=ql (x:=x) (j:=9) (v:=ξ (ζ ⟨pb,0,ε⟩)) iq;obtain⟨x,rfl⟩:=ql (x:=x) (j:=14) (v:=v) hv;obtain⟨x,rfl⟩:=ql (x:=x) (j:=15) (v:=σ υ U) z;clear Y jV iq hv z;unfold Cu tK5 tK4 tK3 tK2 tM tB SS;simp only[Tryz.f15,az,hd1,tl1,c1,c2,blk,upd,aj,gY,gJ];go_wp2_with (first
  |(go_at_call 28;refine y.2.2.2.mono ?_;rintro e w1 ⟨v',b',rfl,O,M⟩;have H1:=Hd (H.below M);have E:=Hd O;have N:=Hd M;clear M O)
  |(go_at_call 29;refine(jhl (qi C.o λg J=>N.block g (C.lt g J).2) E.o (by have:=y.1;omega)).mono ?_;rintro e w2 ⟨⟨sm,rfl⟩,I⟩;have R:=Hd (H1.below I);have D:=Hd (N.trans (I.mono N.size));cases sm;all_goals clear I)
  |(go_at_call 30;refine(q6v R.st.law (by have:=R.nb.1;omega) (qi C.o λg J=>D.block g (C.lt g J).2) y.1 y.2.1 (xlt T.1 D.size) (y.2.2.1.idle H.st.law (il D.o))).mono ?_;rintro e w3 ⟨rfl,V⟩;have S:=Hd V;clear V))
 all_goals exact⟨⟨_,lc,λh=>by have:=T.2;omega⟩,lc,cs,S.1.up H.nb.2,λc hc=>(H.st.ev c hc).up (by have:=H.nb.2;omega),by omega,(il D.o).trans S.2⟩
end
end
end Go.Proofs.YtkpekiajdlolnabGreat
