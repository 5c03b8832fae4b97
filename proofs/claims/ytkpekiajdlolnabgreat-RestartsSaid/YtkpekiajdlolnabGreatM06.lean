/- PROVED: part 6 of the claim's ground. Conditions: those that each theorem names. -/
import Derived.Test.YtkpekiajdlolnabGreatM05
import Derived.Test.YtkpekiajdlolnabGreatM04
import Derived.Maps.AppendAt
import Derived.Deep.RegionHeld3
import Derived.Test.YtkpekiajdlolnabGreatM03
import Derived.Sort.MapsRangeIn
import Derived.ChangeKeysEq
set_option linter.unusedVariables false
set_option linter.unusedSimpArgs false
set_option maxRecDepth 100000
set_option maxHeartbeats 16000000
variable{B:Nat->Prop} {C h id j lb n n' pb rb:Nat} {L:Go.Proofs.YtkpekiajdlolnabGreat.KV} {R:(Nat->Go.Value)->Go.World->Prop} {cv pv:Go.Value} {f:Go.FuncId} {g:Bool} {k l:Go.Proofs.YtkpekiajdlolnabGreat.Bs} {ld s:ByteArray} {m:Go.Proofs.YtkpekiajdlolnabGreat.Mv} {t:Array Go.Value} {w w' w0 w1 w2:Go.World}
open Go.Proofs.Tryz
open Go.World renaming cell?→aa,frozen?→ax,ownsRow_nil→aQ
open Nat renaming reduceEqDiff→ac,le_succ→ao,le_succ_of_le→aK,succ_le_succ→aU,zero_add→bp,pow_succ→bz,mul_le_mul_right→bE,lt_of_le_of_lt→bH,lt_or_ge→cx
open Go renaming World→ae,Value→ai,undef→aw,Calls→az,heap_alloc_old→aD,heap_alloc_new→aI,maxLen→aO,bytesBefore→aT,bodyPost_ret→bh,wpList_append_own→bj,wpList_append_own_at→bD,TypeId→bG,execOp→bX,Ending→cu
open And renaming intro→ag
open Option renaming getD→ah,bind_eq_some_iff→aq,bind_some→aA,map_eq_some_iff→aJ,isSome_iff_exists→aM,bind_none→aY
open List renaming length_cons→aj,length_nil→ak,size_toArray→al,getElem?_eq_some_iff→aB,length_append→aE,mem_of_getElem?→aL,length_take→aN,length_filter_le→aP,mem_or_eq_of_mem_set→bi,getElem?_eq_getElem→bk,getElem?_set_self→bq,take_of_length_le→bw,append_nil→bA,getElem?_eq_none→bC,getElem?_drop→bJ,take_length→bP,range→bV,mem_cons→cj
open Int renaming toNat_natCast→am,lt_or_le→bg
open Go.Code renaming region→au,wp→ay,wp_mono→bK
open Go.ByteArray renaming toList_eq→aC
open Go.RowKit renaming Below→aF
open Array renaming getD→aG,getElem?_push→aZ,toList_append→bF,ext→cn
open Bool renaming and_eq_true→aH,not_eq_true'→bL,and_false→bY
open ByteArray renaming size→aR,getElem_eq_getElem_data→aX,data_append→bB
open Go.Instr renaming index→aS
open Go.Op renaming equalIn→aV,bytesLess→bN
open Go.Obj renaming cells→aW
namespace Go.Proofs.YtkpekiajdlolnabGreat
open Go.RowKit Go.Maps
section
variable {w w':ae} {G:Nat->Prop} {B:MA} {s:St} {n:Nat}
def bgB (B:MA) (n g:Nat) (pv:ai):MA:={B with mp:=qx B.mp n (some g),pv:=qx B.pv n pv,cv:=qx B.cv n (.slice none 0 0)}
theorem nD.Ih {i g:Nat} {m:Option Mv} (h:nD w G B i m) (e:B.mp i=some g):g<w.heap.size:=by
 cases m with
 |none=>rw[h.1]at e;cases e
 |some m=>
  obtain⟨g',h1,h2,h3,_⟩:=h;rw[h1]at e;cases e;exact(zi h3).1
theorem qqj (h:yx w G B s) (hn:n<4) {wA:ae} (e:wA=w.setCell ⟨B.ml,3,none⟩ (.int .i64 ((s.id+1:Nat):Int))):
  wA.cell? ⟨B.ml,3,none⟩=some (.int .i64 ((s.id+1:Nat):Int))/\wA.cell? ⟨B.ml,1,none⟩=some (.slice (some ⟨B.sb,0,none⟩) 4 B.cap)/\wA.cell? ⟨B.sb,n*3,none⟩=some (.int .i64 (s.ow n))/\wA.cell? ⟨B.sb,n*3+1,none⟩=some (B.lv n)/\wA.cell? ⟨B.sb,n*3+2,none⟩=some (.pointer (mpA (B.mp n)))/\wA.frozen? ⟨B.sb,n*3+2,none⟩=false/\zy wA 0 (B.lv n) (s.kv n)/\
   wA.heap[B.ml]?=some (.cells ((xI B s).setIfInBounds 3 (.int .i64 ((s.id+1:Nat):Int))) 101 (0,0))/\(∀b,b≠B.ml->wA.heap[b]?=w.heap[b]?)/\wA.heap.size=w.heap.size/\But (· =B.ml) w wA/\B.sb≠B.ml:=by
 have hs:=xhs w B.ml 3 _ _ (.int .i64 ((s.id+1:Nat):Int)) h.ml.2;have ho:∀b,b≠B.ml->wA.heap[b]?=w.heap[b]?:=λb hb=>by rw[e];exact xho w _ b _ hb
 obtain⟨cur,k1,_⟩:=h.sb.2;have hd:B.sb≠B.ml:=λe2=>by
  have h2:=h.ml.2;rw[<-e2,k1]at h2;have e3:=xoi h2;injection e3 with _ e4;exact absurd e4 (by decide)
 rw[<-e]at hs;obtain⟨p1,p2,p3,p4⟩:=h.sbc hn;have oC:=ho B.sb hd;refine⟨by simp[aa,hs,xI],by simp[aa,hs,xI],(xcb oC).trans p1,(xcb oC).trans p2,(xcb oC).trans p3,(World.frozen?_of_block oC).trans (p4 _),(h.r n hn).1.block λg hg=>ho g λx=>?_,hs,ho,by rw[e];simp,by rw[e];exact But.setCell (B:=(· =B.ml)) (But.refl _ _) rfl _ _,hd⟩;obtain⟨c,hc⟩:=(h.r n hn).1.ty hg;rw[x,h.ml.2]at hc;have e3:=xoi hc;injection e3 with _ e4;exact absurd e4 (by decide)
theorem yx.begin {wA w3:ae} {g to:Nat} (h:yx w G B s) (hn:n<4) (h8:wA.heap[B.ml]?=some (.cells ((xI B s).setIfInBounds 3 (.int .i64 ((s.id+1:Nat):Int))) 101 (0,0))) (ho:∀b,b≠B.ml->wA.heap[b]?=w.heap[b]?) (hz:wA.heap.size=w.heap.size) (oH:But (· =B.ml) w wA) (hd:B.sb≠B.ml) (hb:aF wA.heap.size wA w1) (iT:wA.heap.size<=g)
  (hg:w1.heap[g]?=some (.cells #[.int .i64 ((s.id+1:Nat):Int),.int .i64 (s.ow n),.int .i64 to,pv,.slice none 0 0,.string ⟨#[]⟩,.int .i64 0,.int .i64 0,.int .i64 0,.bool false] 110 (0,0)))
  (hr:w1.ownsRow wA.heap.size 74 2 pv (s.kv n).length (flat (s.kv n))) (e:w3=w1.setCell ⟨B.sb,n*3+2,none⟩ (.pointer (some ⟨g,0,none⟩))):
  yx w3 (λb=>G b\/w.heap.size<=b) (bgB B n g pv) (bgS s n to)/\But G w w3:=by
 obtain⟨cur,k1,k2⟩:=h.sb.2;have lt:∀{b:Nat} {o:Obj},w.heap[b]?=some o->b<w.heap.size:=λhb=>(zi hb).1;have Mf:=lt k1;have hlm:=lt h.ml.2;have old:∀b,b<w.heap.size->b≠B.sb->b≠B.ml->w3.heap[b]?=w.heap[b]?:=λb iq h1 h2=>by
  rw[e,xho _ _ _ _ h1];exact(hb.block b (by omega)).trans (ho b h2)
 have Sm:w3.heap[B.ml]?=some (.cells (xI (bgB B n g pv) (bgS s n to)) 101 (0,0)):=by
  rw[e,xho _ _ _ _ λx=>hd x.symm];exact(hb.block _ (by omega)).trans h8
 have RY:w1.heap[B.sb]?=some (.cells cur 104 (0,0)):=((hb.block _ (by omega)).trans (ho _ hd)).trans k1;have hs:=xhs w1 B.sb (n*3+2) _ _ (.pointer (some ⟨g,0,none⟩)) RY;rw[<-e]at hs;have fresh:∀b,wA.heap.size<=b->w3.heap[b]?=w1.heap[b]?:=λb eZ=>by
  rw[e,xho _ _ _ _ λx=>by rw[show b=B.sb from x]at eZ;omega]
 have iK:∀(b:Nat) (c:Array ai) (ty:bG),w.heap[b]?=some (aW c ty (0,0))->ty≠104->ty≠101->w3.heap[b]?=w.heap[b]?:=λb c ty eZ n1 n2=>by
  refine old b (lt eZ) (λx=>?_) λx=>?_
  ·rw[x,k1]at eZ;have e2:=xoi eZ;injection e2 with _ e3;exact n1 e3.symm
  ·rw[x,h.ml.2]at eZ;have e2:=xoi eZ;injection e2 with _ e3;exact n2 e3.symm
 refine⟨⟨⟨.inl h.ml.1,Sm⟩,⟨.inl h.sb.1,_,hs,λi hi=>?_⟩,λi hi=>⟨(h.r i hi).1.block λq hq=>?_,λb hb=>.inl ((h.r i hi).2 b hb)⟩,λi hi=>?_,λi j q hi hj h1 h2=>?_,λi j q hi hj h1 h2=>?_,h.yu.keep (λb c ty hb _ ht=>iK b c ty hb (by rcases ht with rfl|rfl<;>decide) (by rcases ht with rfl|rfl<;>decide)) (λ_ h=>.inl h) rfl rfl⟩,?_⟩
 ·obtain⟨h3,h4,h5⟩:=k2 i hi;have fC:i*3+2<cur.size:=(zi h5).1;refine⟨by rw[xne (by omega)];exact h3,by rw[xne (by omega)];exact h4,?_⟩;show _=some (Value.pointer (mpA (qx B.mp n (some g) i)));by_cases e1:i=n
  ·subst e1;rw[jc,xsl fC];rfl
  ·rw[q9 _ _ e1,xne (by omega)];exact h5
 ·obtain⟨c,hc⟩:=(h.r i hi).1.ty hq;exact iK q c _ hc (by decide) (by decide)
 ·show nD w3 _ _ i (qx s.mv n _ i);by_cases e1:i=n
  ·subst e1;rw[jc];have e1:(bgB B i g pv).pv i=pv:=jc ..;have e2:(bgB B i g pv).cv i=.slice none 0 0:=jc ..;refine⟨g,jc ..,.inr (by omega),by rw[e1,e2,fresh g iT];exact hg,?_,?_,λb gK=>.inr ?_,λb gK=>?_⟩
   ·rw[e1];have Za:=qi hr λq hq=>fresh q (hr.lt q hq).1;exact⟨Za.1,Za.2.imp id λ⟨g,cap,cur,e,_,r⟩=>⟨g,cap,cur,e,xzl _,r⟩⟩
   ·rw[e2];exact aQ _ _ _ _
   ·rw[e1]at gK;have:=(hr.lt b gK).1;omega
   ·rw[e2]at gK;cases gK
  ·rw[q9 _ _ e1];exact(((h.mv i hi).keep (w':=w3) (λb c _ hb=>iK b c _ hb (by decide) (by decide)) (λb c _ hb=>iK b c _ hb (by decide) (by decide)) (λb c _ hb=>iK b c _ hb (by decide) (by decide))).mono λ_ h=>.inl h).same (q9 _ _ e1) (q9 _ _ e1) (q9 _ _ e1)
 ·replace h1:qx B.mp n (some g) i=some q:=h1;replace h2:qx B.mp n (some g) j=some q:=h2;by_cases e1:i=n
  ·by_cases e2:j=n
   ·omega
   ·subst e1;rw[jc]at h1;rw[q9 _ _ e2]at h2;cases h1;have:=(h.mv j hj).Ih h2;omega
  ·rw[q9 _ _ e1]at h1;by_cases e2:j=n
   ·subst e2;rw[jc]at h2;cases h2;have:=(h.mv i hi).Ih h1;omega
   ·rw[q9 _ _ e2]at h2;exact h.mpi i j q hi hj h1 h2
 ·replace h1:(qx B.cv n (.slice none 0 0) i).ownBlock=some q:=h1;replace h2:(qx B.cv n (.slice none 0 0) j).ownBlock=some q:=h2;by_cases e1:i=n
  ·subst e1;rw[jc]at h1;cases h1
  ·by_cases e2:j=n
   ·subst e2;rw[jc]at h2;cases h2
   ·rw[q9 _ _ e1]at h1;rw[q9 _ _ e2]at h2;exact h.cvi i j q hi hj h1 h2
 ·rw[e];exact But.setCell ((oH.mono λb e=>e▸h.ml.1).trans (But.of_below hb)) h.sb.1 _ _
theorem yx.drop (h:yx w G B s) (hn:n<4):yx (w.setCell ⟨B.sb,n*3+2,none⟩ (.pointer none)) G {B with mp:=qx B.mp n none,cv:=qx B.cv n (.slice none 0 0)} {s with mv:=qx s.mv n none}/\But G w (w.setCell ⟨B.sb,n*3+2,none⟩ (.pointer none)):=by
 obtain⟨cur,k1,k2⟩:=h.sb.2;have hs:=xhs w B.sb (n*3+2) cur 104 (.pointer none) k1;have no:∀(b:Nat) (c:Array ai) (ty:bG),w.heap[b]?=some (aW c ty (0,0))->ty≠104->(w.setCell ⟨B.sb,n*3+2,none⟩ (.pointer none)).heap[b]?=w.heap[b]?:=λb c ty eZ n1=>xho w _ b _ λe=>by
  rw[show b=B.sb from e,k1]at eZ;have e2:=xoi eZ;injection e2 with _ e3;exact n1 e3.symm
 refine⟨⟨⟨h.ml.1,(no _ _ _ h.ml.2 (by decide)).trans h.ml.2⟩,⟨h.sb.1,_,hs,λi hi=>?_⟩,λi hi=>⟨(h.r i hi).1.block λq hq=>?_,(h.r i hi).2⟩,λi hi=>?_,λi j q hi hj h1 h2=>?_,λi j q hi hj h1 h2=>?_,h.yu.keep (λb c ty hb _ ht=>no b c ty hb (by rcases ht with rfl|rfl<;>decide)) (λ_ h=>h) rfl rfl⟩,But.setCell (But.refl _ _) h.sb.1 _ _⟩
 ·obtain⟨h3,h4,h5⟩:=k2 i hi;have fC:i*3+2<cur.size:=(zi h5).1;refine⟨by rw[xne (by omega)];exact h3,by rw[xne (by omega)];exact h4,?_⟩;show _=some (Value.pointer (mpA (qx B.mp n none i)));by_cases e1:i=n
  ·subst e1;rw[jc,xsl fC];rfl
  ·rw[q9 _ _ e1,xne (by omega)];exact h5
 ·obtain⟨c,hc⟩:=(h.r i hi).1.ty hq;exact no q c _ hc (by decide)
 ·show nD _ _ _ i (qx s.mv n none i);by_cases e1:i=n
  ·subst e1;rw[jc];exact⟨jc ..,by show(qx B.cv i (.slice none 0 0) i).ownBlock=none;rw[jc];rfl⟩
  ·rw[q9 _ _ e1];exact((h.mv i hi).keep (λb c _ hb=>no b c _ hb (by decide)) (λb c _ hb=>no b c _ hb (by decide)) (λb c _ hb=>no b c _ hb (by decide))).same (q9 _ _ e1) rfl (q9 _ _ e1)
 ·replace h1:qx B.mp n none i=some q:=h1;replace h2:qx B.mp n none j=some q:=h2;by_cases e1:i=n
  ·subst e1;rw[jc]at h1;cases h1
  ·by_cases e2:j=n
   ·subst e2;rw[jc]at h2;cases h2
   ·rw[q9 _ _ e1]at h1;rw[q9 _ _ e2]at h2;exact h.mpi i j q hi hj h1 h2
 ·replace h1:(qx B.cv n (.slice none 0 0) i).ownBlock=some q:=h1;replace h2:(qx B.cv n (.slice none 0 0) j).ownBlock=some q:=h2;by_cases e1:i=n
  ·subst e1;rw[jc]at h1;cases h1
  ·by_cases e2:j=n
   ·subst e2;rw[jc]at h2;cases h2
   ·rw[q9 _ _ e1]at h1;rw[q9 _ _ e2]at h2;exact h.cvi i j q hi hj h1 h2
end
namespace Ph
open Go.Conc Go.ConcN Go.RowKit Go.Maps Go.Conc.Lib Go Sim
section
variable {w w':ae} {G:Nat->Prop} {B:MA} {s:St} {n:Nat}
theorem q2i (h:yx w G B s) (hn:n<4) (hL:(s.kv n).length<=12) (to:Nat) (hid:s.id<=4611686018427387904):
  az prog 59 #[.pointer (some ⟨B.ml,0,none⟩),.int .i64 n,.int .i64 to] w (mE w G B (.tuple #[]) (bgS s n to)):=by
 have c3:w.cell? ⟨B.ml,3,none⟩=some (.int .i64 s.id):=(h.cells 3 _ rfl).1;have f3:=(h.cells 3 (.int .i64 s.id) rfl).2;have H:=Hd h;have HL:=Hd hL;have SE:((s.id:Int)+1<=9223372036854775807):=by omega
 clear h hL;go_enter func59,ntmps59;go_wp2;have IG:w.setCell ⟨B.ml,3,none⟩ (.int .i64 ((s.id:Int)+1))=w.setCell ⟨B.ml,3,none⟩ (.int .i64 ((s.id+1:Nat):Int)):=rfl;obtain⟨a1,a2,a3,a4,a5,a6,a7,a8,a9,mJ,kY,a12⟩:=qqj H.o hn IG;obtain⟨sl,cp,hv⟩:=D5 a7;rw[hv]at a4 a7;generalize w.setCell ⟨B.ml,3,none⟩ (.int .i64 ((s.id:Int)+1))=wA at*;clear IG c3 f3;change ay _ (au 1 eg1 true) _ _ _;refine jgw (ml:=B.ml) (sb:=B.sb) (n:=n) (cap:=B.cap) (id:=s.id+1) (ow:=s.ow n) (to:=to) (cp:=cp) (sa:=sl) (L:=s.kv n) rfl rfl rfl rfl rfl hn a1 a2 a3 a4 ⟨_,a5⟩ a6 a7 (by have:=HL.o;omega) λy w1 g sa c hy iq iT hg hr=>?_;have HF:=Hd (H.begin hn a8 a9 mJ kY a12 iq iT hg hr rfl);rw[jio];clear hy iq iT hg hr a1 a2 a3 a4 a5 a6 a7 a8 a9 mJ kY a12;go_wp2;go_end0;exact⟨rfl,bgB B n g _,rfl,HF.1,HF.2⟩
theorem q7x (h:yx w G B s) (hL:∀i,i<4->(s.kv i).length<=12) (hid:s.id<=4611686018427387904) (k to:Int) (xS: -9223372036854775808<=k/\k<=9223372036854775807) (ht2: -9223372036854775808<=to/\to<=9223372036854775807):
  az prog 32 #[.pointer (some ⟨B.ml,0,none⟩),.int .i64 k,.int .i64 to] w (mE w G B (.int .i64 (mvE s k to)) (mvS s k to)):=by
 by_cases hk:k<0\/3<k
 ·rw[(KA hk).1,(KA hk).2];have H:=Hd h;clear h hL hid;rcases bg k 0 with h2|h2
  ·have g1:decide (k<0)=true:=xdt h2;go_enter func32,ntmps32;go_wp2;go_ret;exact .idle H.o (jg _ _)
  ·have g1:decide (k<0)=false:=xdf (by omega);have g2:decide (3<k)=true:=xdt (by omega);go_enter func32,ntmps32;go_wp2;go_ret;exact .idle H.o (jg _ _)
 have c0:w.cell? ⟨B.ml,0,none⟩=some (.int .i64 s.hosts):=(h.cells 0 _ rfl).1;have c1:w.cell? ⟨B.ml,1,none⟩=some (.slice (some ⟨B.sb,0,none⟩) 4 B.cap):=(h.cells 1 _ rfl).1;obtain⟨n,rfl⟩:∃n:Nat,k=n:=⟨k.toNat,by omega⟩
 have hn:n<4:=by omega
 have tq:((n:Int)<4):=by omega
 have g1:decide ((n:Int)<0)=false:=xdf (by omega);have g2:decide ((3:Int)<n)=false:=xdf (by omega);by_cases ht:to<0\/s.hosts<=to
 ·rw[(KI hk ht).1,(KI hk ht).2];have H:=Hd h;clear h hL hid;rcases bg to 0 with h2|h2
  ·have g3:decide (to<0)=true:=xdt h2;go_enter func32,ntmps32;go_wp2;go_ret;exact .idle H.o (jg _ _)
  ·have g3:decide (to<0)=false:=xdf (by omega);have g4:decide ((s.hosts:Int)<=to)=true:=xdt (by omega);go_enter func32,ntmps32;go_wp2;go_ret;exact .idle H.o (jg _ _)
 obtain⟨to,rfl⟩:∃q:Nat,to=q:=⟨to.toNat,by omega⟩
 have g3:decide ((to:Int)<0)=false:=xdf (by omega);have g4:decide (s.hosts<=to)=false:=xdf (by omega);obtain⟨cO,_,cV,_⟩:=h.sbc hn;have hm:=h.mv n hn;cases fq:s.mv n with
 |some m=>
  rw[(KL hn ht fq).1,(KL hn ht fq).2];rw[fq]at hm;obtain⟨x,z1,_⟩:=hm;rw[z1]at cV;replace cV:w.cell? ⟨B.sb,n*3+2,none⟩=some (.pointer (some ⟨x,0,none⟩)):=cV;have H:=Hd h;clear h hL hid z1 fq hk ht;go_enter func32,ntmps32;go_wp2;go_ret;exact .idle H.o (jg _ _)
 |none=>
  rw[fq]at hm;rw[hm.1]at cV;replace cV:w.cell? ⟨B.sb,n*3+2,none⟩=some (.pointer none):=cV;by_cases ho:s.ow n=to
  ·rw[(KJ hn ht fq (by omega)).1,(KJ hn ht fq (by omega)).2];have H:=Hd h;rw[ho]at cO;clear h hL hid hm fq hk ht ho;go_enter func32,ntmps32;go_wp2;go_ret;exact .idle H.o (jg _ _)
  ·have g5:(s.ow n==to)=false:=by simpa using ho
   have hb:=q2i h hn (hL n hn) to hid;rw[(Ko hn (by omega) fq ho).1,(Ko hn (by omega) fq ho).2];have HB:=Hd hb;clear h hL hid hm fq hk ht ho hb;go_enter func32,ntmps32;go_wp2_with (go_at_call 59;refine HB.mono ?_;rintro e w' ⟨rfl,h2⟩;have H2:=Hd h2;clear h2)
   go_ret;exact⟨rfl,H2.o⟩
theorem q2h (h:yx w G B s) (k:Int) (xS: -9223372036854775808<=k/\k<=9223372036854775807):az prog 34 #[.pointer (some ⟨B.ml,0,none⟩),.int .i64 k] w (mE w G B (.int .i64 (abE s k)) (abS s k)):=by
 have c1:w.cell? ⟨B.ml,1,none⟩=some (.slice (some ⟨B.sb,0,none⟩) 4 B.cap):=(h.cells 1 _ rfl).1;by_cases hk:k<0\/3<k
 ·have HE:Hid (abE s k=8/\abS s k=s):=Hd ⟨by unfold abE;rw[if_pos hk],by unfold abS;rw[if_pos hk]⟩;have H:=Hd h;rw[HE.1,HE.2];clear h;rcases bg k 0 with h2|h2
  ·have g1:decide (k<0)=true:=xdt h2;go_enter func34,ntmps34;go_wp2;go_ret;exact .idle H.o (jg _ _)
  ·have g1:decide (k<0)=false:=xdf (by omega);have g2:decide (3<k)=true:=xdt (by omega);go_enter func34,ntmps34;go_wp2;go_ret;exact .idle H.o (jg _ _)
 ·obtain⟨n,rfl⟩:∃n:Nat,k=n:=⟨k.toNat,by omega⟩
  have hn:n<4:=by omega
  have tq:((n:Int)<4):=by omega
  have g1:decide ((n:Int)<0)=false:=xdf (by omega);have g2:decide ((3:Int)<n)=false:=xdf (by omega);have hm:=h.mv n hn;obtain⟨_,_,cV,fV⟩:=h.sbc hn;replace fV:=fV (n*3+2);cases fq:s.mv n with
  |none=>
   have HE:Hid (abE s (n:Int)=11/\abS s (n:Int)=s):=Hd ⟨by unfold abE;rw[if_neg hk,am,fq],by unfold abS;rw[if_neg hk,am,fq]⟩;have H:=Hd h;rw[HE.1,HE.2];rw[fq]at hm;rw[hm.1]at cV;replace cV:w.cell? ⟨B.sb,n*3+2,none⟩=some (.pointer none):=cV;clear h hm fq hk;go_enter func34,ntmps34;go_wp2;go_ret;exact .idle H.o (jg _ _)
  |some m=>
   rw[fq]at hm;obtain⟨x,z1,z2,z3,_⟩:=hm;rw[z1]at cV;replace cV:w.cell? ⟨B.sb,n*3+2,none⟩=some (.pointer (some ⟨x,0,none⟩)):=cV;have jE:w.cell? ⟨x,9,none⟩=some (.bool m.sealed):=by simp[aa,z3,vv]
   have HE:Hid (abE s (n:Int)=(if m.sealed then 12 else 0)/\abS s (n:Int)=if m.sealed then s else{s with mv:=qx s.mv n none}):=Hd ⟨by unfold abE;rw[if_neg hk,am,fq],by unfold abS;rw[if_neg hk,am,fq]⟩;have H:=Hd h;rw[HE.1,HE.2];clear h fq hk z1 z2 z3;cases hs:m.sealed
   ·rw[hs]at jE;rw[if_neg (by decide),if_neg (by decide)];clear hs;go_enter func34,ntmps34;go_wp2;go_ret;exact⟨rfl,{B with mp:=qx B.mp n none,cv:=qx B.cv n (.slice none 0 0)},rfl,(H.drop hn).1.mono λ_ h=>.inl h,(H.drop hn).2⟩
   ·rw[hs]at jE;rw[if_pos rfl,if_pos rfl];clear hs;go_enter func34,ntmps34;go_wp2;go_ret;exact .idle H.o (jg _ _)
end
theorem jim (y:Nat->ai):lay 41 y=#[y 0,y 1,y 2,y 3,y 4,y 5,y 6,y 7,y 8,y 9,y 10,y 11,y 12,y 13,y 14,y 15,y 16,y 17,y 18,y 19,y 20,y 21,y 22,y 23,y 24,y 25,y 26,y 27,y 28,y 29,y 30,y 31,y 32,y 33,y 34,y 35,y 36,y 37,y 38,y 39,y 40]:=rfl
theorem jin (y:Nat->ai):lay 42 y=#[y 0,y 1,y 2,y 3,y 4,y 5,y 6,y 7,y 8,y 9,y 10,y 11,y 12,y 13,y 14,y 15,y 16,y 17,y 18,y 19,y 20,y 21,y 22,y 23,y 24,y 25,y 26,y 27,y 28,y 29,y 30,y 31,y 32,y 33,y 34,y 35,y 36,y 37,y 38,y 39,y 40,y 41]:=rfl
def frB (kd sh id n:Nat) (ld:ByteArray):ByteArray:=⟨(Fr.bytes ⟨kd,sh,id,n,ld.data.toList⟩).toArray⟩
def frX (kd sh id n:Nat) (ld:ByteArray):ByteArray:=(⟨#[b8 kd,b8 sh]⟩:ByteArray)++⟨(iJ id).toArray⟩++⟨(iJ n).toArray⟩++⟨(nA ld.data.toList).toArray⟩
theorem Vk (kd sh id n:Nat) (ld:ByteArray):(frX kd sh id n ld).data.toList=Fr.body ⟨kd,sh,id,n,ld.data.toList⟩:=by
 simp[frX,Fr.body]
theorem VP (kd sh id n:Nat) (ld:ByteArray):frX kd sh id n ld++(⟨(le4 (chk (frX kd sh id n ld).data.toList)).toArray⟩:ByteArray)=frB kd sh id n ld:=by
 have h:(frX kd sh id n ld++(⟨(le4 (chk (frX kd sh id n ld).data.toList)).toArray⟩:ByteArray)).data.toList=(frB kd sh id n ld).data.toList:=by
  simp only[bB,bF,Vk,frB,Fr.bytes,List.toList_toArray]
 have h2:∀a b:ByteArray,a.data.toList=b.data.toList->a=b:=λa b e=>by
  cases a;cases b;simp only[ByteArray.mk.injEq];exact Array.toList_inj.1 e
 exact h2 _ _ h
theorem AX (h:n<9223372036854775808):(iJ n).length<=9:=AV 8 n (by omega)
theorem Vj {kd sh:Nat} (h1:id<9223372036854775808) (h2:n<9223372036854775808) (h3:ld.size<=1048576):(frX kd sh id n ld).size<=2097152:=by
 have a1:=AX h1;have a2:=AX h2;have a3:=AX (n:=ld.data.toList.length) (by simp;omega);have e:(frX kd sh id n ld).size=(frX kd sh id n ld).data.toList.length:=by simp
 rw[e,Vk];simp only[Fr.body,aE,aj,ak,nA];have:ld.data.toList.length=ld.size:=by simp
 omega
theorem Vu (w:ae):(convert 139 9 (.slice (some ⟨w.heap.size,0,none⟩) 4 4)).run prog (w.alloc (.cells #[.int .u8 ((C:Int)%256),.int .u8 ((C:Int)/256%256),.int .u8 ((C:Int)/65536%256),.int .u8 ((C:Int)/16777216%256)] 5))=.ok (.string ⟨#[b8 C,b8 (C/256),b8 (C/65536),b8 (C/16777216)]⟩) (w.alloc (.cells #[.int .u8 ((C:Int)%256),.int .u8 ((C:Int)/256%256),.int .u8 ((C:Int)/65536%256),.int .u8 ((C:Int)/16777216%256)] 5)):=
 jgs _ _ ((C:Int)%256) ((C:Int)/256%256) ((C:Int)/65536%256) ((C:Int)/16777216%256) _ _ _ _ (by simp[b8]) (by simp[b8]) (by simp[b8]) (by simp[b8]) (by go_simp) (by go_simp) (by go_simp) (by go_simp)
theorem U8 (kd sh id n:Nat) (ld:ByteArray) (tH:kd<256) (kG:sh<256) (hid:id<9223372036854775808) (hn:n<9223372036854775808) (gI:ld.size<=1048576):
  az prog 75 #[.agg #[.int .u8 kd,.int .i64 sh,.int .i64 id,.int .i64 n,.string ld]] w λe w'=>e=.returned (.string (frB kd sh id n ld))/\aF w.heap.size w w':=by
 have HX:=Hd (Vj (kd:=kd) (sh:=sh) hid hn gI);have HB:=Hd (VP kd sh id n ld);have H1:=Hd (ag tH (ag kG (ag hid (ag hn gI))));have l3:(nA ld.data.toList).length<=1048585:=by
  have a3:=AX (n:=ld.data.toList.length) (by simp;omega);have:ld.data.toList.length=ld.size:=by simp
  simp only[nA,aE];omega
 have HL:=Hd l3;clear tH kG hid hn gI l3;go_enter func75,ntmps75;go_wp2;change ay _ (au 1 pb1 true) _ _ _;refine jjk (bx:=w.heap.size) (kd:=kd) (sh:=sh) (id:=id) (n:=n) (ld:=ld) (s1:=⟨(iJ id).toArray⟩) (s2:=⟨(iJ n).toArray⟩) (s3:=⟨(nA ld.data.toList).toArray⟩) rfl rfl rfl (by go_simp) (by go_simp) (by go_simp) (by go_simp) (by go_simp) H1.1 H1.2.1 rfl (by simpa[aR]using AX H1.2.2.1) (by simpa[aR]using AX H1.2.2.2.1) (by simpa[aR]using HL.o) (λW=>Pq id H1.2.2.1) (λW=>Pq n H1.2.2.2.1) (λW=>jez ld (by have:=H1.2.2.2.2;omega)) ?_;intro y w1 _ y3 iq;rw[jim];replace y3:y 3=.string (frX kd sh id n ld):=y3;rw[y3];have lH:=Hd (((jg w.heap.size w).alloc (ji _) _).trans (iq.mono (by simp)));clear iq y3;obtain⟨X,hX⟩:∃X,frX kd sh id n ld=X:=⟨_,rfl⟩
 rw[hX]at HB HX;rw[hX];clear hX;have HC:=Hd (Nv X.data.toList);go_wp2_with (go_at_call 117;refine(Uw X (by have:=HX.o;omega)).mono ?_;rintro e w2 ⟨rfl,rfl⟩;generalize chk X.data.toList=C at *; have Et:=Vu (C:=C) w2;have fC:=HX.o)
 go_ret;exact⟨by rw[<-HB.o];rfl,lH.trans ((jg _ _).alloc lH.size _)⟩
theorem NT (h:C<2^32) (d:Nat) (hd:0<d):wrap64 ((C:Int)/(d:Int))=(C:Int)/(d:Int):=by
 have e:(C:Int)/(d:Int)=((C/d:Nat):Int):=by rw[Int.natCast_ediv]
 have hq:C/d<2^32:=bH (Nat.div_le_self _ _) h;rw[e];generalize C/d=q at*;unfold wrap64;omega
theorem Ob (kd sh id n:Nat) (ld:ByteArray) (tH:kd<256) (kG:sh<256) (hid:id<9223372036854775808) (hn:n<9223372036854775808) (gI:ld.size<=1048576):
  az prog 100 #[.agg #[.int .i64 kd,.int .i64 sh,.int .i64 id,.int .i64 n,.string ld]] w λe w'=>e=.returned (.string (frB kd sh id n ld))/\aF w.heap.size w w':=by
 have HX:=Hd (Vj (kd:=kd) (sh:=sh) hid hn gI);have HB:=Hd (VP kd sh id n ld);have H1:=Hd (ag tH (ag kG (ag hid (ag hn gI))));have l3:(nA ld.data.toList).length<=1048585:=by
  have a3:=AX (n:=ld.data.toList.length) (by simp;omega);have:ld.data.toList.length=ld.size:=by simp
  simp only[nA,aE];omega
 have HL:=Hd l3;clear tH kG hid hn gI l3;go_enter func100,ntmps100;go_wp2;change ay _ (au 1 db1 true) _ _ _;refine jgt (bx:=w.heap.size) (kd:=kd) (sh:=sh) (id:=id) (n:=n) (ld:=ld) (s1:=⟨(iJ id).toArray⟩) (s2:=⟨(iJ n).toArray⟩) (s3:=⟨(nA ld.data.toList).toArray⟩) rfl rfl rfl (by go_simp) (by go_simp) (by go_simp) (by go_simp) (by go_simp) H1.1 H1.2.1 rfl (by simpa[aR]using AX H1.2.2.1) (by simpa[aR]using AX H1.2.2.2.1) (by simpa[aR]using HL.o) (λW=>Ng id W H1.2.2.1) (λW=>Ng n W H1.2.2.2.1) (λW=>q9k ld (by have:=H1.2.2.2.2;omega)) ?_;intro y w1 _ y3 iq;rw[jin];replace y3:y 3=.string (frX kd sh id n ld):=y3;rw[y3];have lH:=Hd (((jg w.heap.size w).alloc (ji _) _).trans (iq.mono (by simp)));clear iq y3;obtain⟨X,hX⟩:∃X,frX kd sh id n ld=X:=⟨_,rfl⟩
 rw[hX]at HB HX;rw[hX];clear hX;have HC:=Hd (Nv X.data.toList);go_wp2_with (go_at_call 126;refine(q5b X (by have:=HX.o;omega)).mono ?_;rintro e w2 ⟨rfl,rfl⟩;generalize chk X.data.toList=C at *; have Et:=Vu (C:=C) w2;have fC:=HX.o;have v1:wrap64 ((C:Int)/256)=(C:Int)/256:=NT HC.o 256 (by decide);have v2:wrap64 ((C:Int)/65536)=(C:Int)/65536:=NT HC.o 65536 (by decide);have v3:wrap64 ((C:Int)/16777216)=(C:Int)/16777216:=NT HC.o 16777216 (by decide))
 go_ret;exact⟨by rw[<-HB.o];rfl,lH.trans ((jg _ _).alloc lH.size _)⟩
end Ph
open Go.RowKit Go.Maps
def nxM (n:Nat) (m:Mv):Mv:={m with kind:=1,sent:=(Ph.frB 1 n m.id 0 ⟨#[]⟩).data.toList}
def nxV (s:St) (k:Int):Bs:=if k<0\/3<k then[]else match s.mv k.toNat with
 |none=>[]
 |some m=>if m.sent.isEmpty then(nxM k.toNat m).sent else m.sent
def nxE (s:St) (k:Int):Int:=if k<0\/3<k then 8 else match s.mv k.toNat with
 |none=>11
 |some _=>0
def nxS (s:St) (k:Int):St:=if k<0\/3<k then s else match s.mv k.toNat with
 |none=>s
 |some m=>if m.sent.isEmpty then{s with mv:=qx s.mv k.toNat (some (nxM k.toNat m))}else s
section
variable {w w':ae} {F:Nat->Prop} {A:PA} {s:St} {n x:Nat}
theorem Fu {k:Int} (hk:k<0\/3<k):nxV s k=[]/\nxE s k=8/\nxS s k=s:=⟨by unfold nxV;rw[if_pos hk],by unfold nxE;rw[if_pos hk],by unfold nxS;rw[if_pos hk]⟩
theorem FE (hn:n<4) (hm:s.mv n=none):nxV s n=[]/\nxE s n=11/\nxS s n=s:=⟨by unfold nxV;rw[if_neg (by omega),am,hm],by unfold nxE;rw[if_neg (by omega),am,hm],by unfold nxS;rw[if_neg (by omega),am,hm]⟩
theorem FY (hn:n<4) (hm:s.mv n=some m) (h:m.sent.isEmpty=false):nxV s n=m.sent/\nxE s n=0/\nxS s n=s:=⟨by unfold nxV;rw[if_neg (by omega),am,hm];simp[h],by unfold nxE;rw[if_neg (by omega),am,hm],by unfold nxS;rw[if_neg (by omega),am,hm];simp[h]⟩
theorem Xz (hn:n<4) (hm:s.mv n=some m) (h:m.sent.isEmpty=true):nxV s n=(nxM n m).sent/\nxE s n=0/\nxS s n={s with mv:=qx s.mv n (some (nxM n m))}:=⟨by unfold nxV;rw[if_neg (by omega),am,hm];simp[h],by unfold nxE;rw[if_neg (by omega),am,hm],by unfold nxS;rw[if_neg (by omega),am,hm];simp[h]⟩
theorem yg {a b:Array ai} {t u:bG} {p q:Nat×Nat} (h:some (aW a t p)=some (aW b u q)):t=u:=by
 have e:=xoi h;injection e
theorem yc.mvb {m':Mv} {ld':ByteArray} (h:yc w F A s) (hn:n<4) (fq:s.mv n=some m) (oD:A.mp n=some x) (hb:But (· =x) w w') (hx:w'.heap[x]?=some (.cells (zw n (A.pv n) (A.cv n) ld' m') 135 (0,0))) (e1:m'.ps=m.ps) (e2:m'.cs=m.cs):
  yc w' F {A with ld:=qx A.ld n ld'} {s with mv:=qx s.mv n (some m')}:=by
 have h0:=h.mv n hn;rw[fq]at h0;obtain⟨g,z1,z2,z3,z4,z5,z6,z7⟩:=h0;rw[oD]at z1;cases z1;have lt:∀{b:Nat} {o:Obj},w.heap[b]?=some o->b<w.heap.size:=λhb=>(zi hb).1;have iK:∀(b:Nat) (c:Array ai) (ty:bG),w.heap[b]?=some (aW c ty (0,0))->ty≠135->w'.heap[b]?=w.heap[b]?:=λb c ty eZ n1=>hb.keep b (lt eZ) λe=>by
  rw[e,z3]at eZ;exact n1 (yg eZ).symm
 have zH:∀b,(∃es ck,w.heap[b]?=some (Obj.map es ck))->w'.heap[b]?=w.heap[b]?:=λb ⟨es,ck,eZ⟩=>hb.keep b (lt eZ) λe=>by
  rw[e,z3]at eZ;cases eZ
 refine⟨⟨h.cl.1,(iK _ _ _ h.cl.2 (by decide)).trans h.cl.2⟩,λi hi=>⟨(h.db i hi).1,(iK _ _ _ (h.db i hi).2 (by decide)).trans (h.db i hi).2⟩,λi hi=>⟨(h.mb i hi).1,?_⟩,h.mbi,λi hi=>?_,h.mpi,h.cvi,h.yu.keep (λb cur ty eZ ht=>iK b cur ty eZ (by rcases ht with rfl|rfl<;>decide)) (λb eZ _=>zH b eZ) (λ_ h=>h) rfl rfl rfl,h.smb⟩
 ·obtain⟨es,ck,eZ,_⟩:=(h.mb i hi).2;exact(h.mb i hi).2.block (zH _ ⟨es,ck,eZ⟩)
 ·show mU w' F _ i (qx s.mv n _ i);by_cases e:i=n
  ·subst e;rw[jc];refine⟨x,oD,z2,?_,?_,?_,z6,z7⟩
   ·rw[hx];show _=some (aW (zw i (A.pv i) (A.cv i) (qx A.ld i ld' i) m') _ _);rw[jc]
   ·rw[e1];exact z4.block λb hb=>by
     obtain⟨c,hc⟩:=jm z4 hb;exact iK b c _ hc (by decide)
   ·rw[e2];exact z5.block λb hb=>by
     obtain⟨c,hc⟩:=jm z5 hb;exact iK b c _ hc (by decide)
  ·rw[q9 _ _ e];exact((h.mv i hi).keep (λb c ng eZ=>hb.keep b (lt eZ) λe2=>e (h.mpi i n b hi hn ng (by rw[oD,e2]))) (λb c _ hb=>iK b c _ hb (by decide)) (λb c _ hb=>iK b c _ hb (by decide))).same rfl rfl rfl (q9 _ _ e)
end
namespace Ph
open Go.Conc Go.ConcN Go.RowKit Go.Maps Go.Conc.Lib Go Sim
section
variable {w w':ae} {F:Nat->Prop} {A:PA} {s:St} {n x:Nat}
structure NxW (w0:ae) (x n:Nat) (pv cv:ai) (m:Mv) (w:ae):Prop where
 b:w.heap[x]?=some (.cells (zw n pv cv ⟨#[]⟩ {m with kind:=1}) 135 (0,0))
 but:But (· =x) w0 w
theorem NxW.below (h:NxW w0 x n pv cv m w) (hb:aF w.heap.size w w'):NxW w0 x n pv cv m w':=⟨(hb.block _ (zi h.b).1).trans h.b,h.but.trans (But.of_below hb)⟩
theorem NxW.of (h:w.heap[x]?=some (.cells (zw n pv cv ld m) 135 (0,0))):NxW w x n pv cv m ((w.setCell ⟨x,5,none⟩ (.int .u8 1)).setCell ⟨x,9,none⟩ (.string ⟨#[]⟩)):=by
 have k1:=xhs w x 5 _ _ (.int .u8 1) h;have k2:=xhs _ x 9 _ _ (.string ⟨#[]⟩) k1;exact⟨k2.trans rfl,But.setCell (B:=(· =x)) (But.setCell (B:=(· =x)) (But.refl _ _) rfl _ _) rfl _ _⟩
theorem NxW.cells {w0:ae} {pv cv:ai} {m:Mv} (h:NxW w0 x n pv cv m w) {sb:ByteArray} (hs:sb.data.toList=m.sent):w.cell? ⟨x,10,none⟩=some (.string sb)/\w.frozen? ⟨x,10,none⟩=false:=by
 rw[<-qw hs];exact⟨by simp[aa,h.b,zw],by simp[ax,h.b]⟩
theorem NxW.done {w0:ae} {m:Mv} (h:NxW w0 x n (A.pv n) (A.cv n) m w) (hp:yc w0 F A s) (hn:n<4) (fq:s.mv n=some m) (oD:A.mp n=some x) (hF:F x):
  yc (w.setCell ⟨x,10,none⟩ (.string (frB 1 n m.id 0 ⟨#[]⟩))) F {A with ld:=qx A.ld n ⟨#[]⟩} {s with mv:=qx s.mv n (some (nxM n m))}/\But F w0 (w.setCell ⟨x,10,none⟩ (.string (frB 1 n m.id 0 ⟨#[]⟩))):=by
 have k:=xhs w x 10 _ _ (.string (frB 1 n m.id 0 ⟨#[]⟩)) h.b;have hb:=But.setCell (B:=(· =x)) h.but rfl 10 (.string (frB 1 n m.id 0 ⟨#[]⟩));refine⟨hp.mvb hn fq oD hb ?_ rfl rfl,hb.mono λb e=>e▸hF⟩;rw[k];have e:sv (nxM n m).sent=.string (frB 1 n m.id 0 ⟨#[]⟩):=pI _;unfold zw;rw[e];rfl
theorem q89 (h:yc w F A s) (xQ:∀i,i<4->∀m,s.mv i=some m->m.n=0/\m.id<9223372036854775808) (k:Int) (xS: -9223372036854775808<=k/\k<=9223372036854775807):
  az prog 46 #[.pointer (some ⟨A.cl,0,none⟩),.int .i64 k] w (rX w F A (.tuple #[sv (nxV s k),.int .i64 (nxE s k)]) (nxS s k)):=by
 by_cases hk:k<0\/3<k
 ·rw[(Fu hk).1,(Fu hk).2.1,(Fu hk).2.2];have H:=Hd h;clear h xQ;go_enter func46,ntmps46;go_wp2_with (go_at_call 60;refine(WB k hk xS A.cl).mono ?_;rintro e w' ⟨rfl,rfl⟩)
  go_ret2;exact .idle H.o (jg _ _)
 obtain⟨n,rfl⟩:∃n:Nat,k=n:=⟨k.toNat,by omega⟩
 have hn:n<4:=by omega
 have ng:=VK h hn;have hm:=h.mv n hn;have cV:=(h.part n hn).v;cases fq:s.mv n with
 |none=>
  rw[(FE hn fq).1,(FE hn fq).2.1,(FE hn fq).2.2];have H:=Hd h;rw[fq]at ng;clear h hm fq hk cV xQ;go_enter func46,ntmps46;go_wp2_with (go_at_call 60;refine ng.mono ?_;rintro e w' ⟨rfl,rfl⟩)
  go_ret2;exact .idle H.o (jg _ _)
 |some m=>
  rw[fq]at hm ng;obtain⟨x,z1,z2,z3,_⟩:=hm;rw[z1]at cV;replace cV:w.cell? ⟨A.cl,1+n*3+2,none⟩=some (.pointer (some ⟨x,0,none⟩)):=cV;obtain⟨sb,oC⟩:∃b:ByteArray,b.data.toList=m.sent:=⟨⟨m.sent.toArray⟩,by simp⟩
  have Ri:w.cell? ⟨x,10,none⟩=some (.string sb):=by rw[<-qw oC];simp[aa,z3,zw]
  have gW:sb.toList.isEmpty=m.sent.isEmpty:=by rw[aC,oC]
  cases jE:m.sent.isEmpty
  ·rw[(FY hn fq jE).1,(FY hn fq jE).2.1,(FY hn fq jE).2.2,qw oC];rw[jE]at gW;have H:=Hd h;clear h fq hk xQ z1 z2 z3 jE oC;go_enter func46,ntmps46;go_wp2_with (go_at_call 60;refine ng.mono ?_;rintro e w' ⟨rfl,rfl⟩)
   go_ret2;exact .idle H.o (jg _ _)
  ·obtain⟨h0,hid⟩:=xQ n hn m fq;have c8:w.cell? ⟨x,8,none⟩=some (.int .i64 0):=by simp[aa,z3,zw,h0]
   have c5:w.cell? ⟨x,5,none⟩=some (.int .u8 m.kind):=by simp[aa,z3,zw]
   have c6:w.cell? ⟨x,6,none⟩=some (.int .i64 n):=by simp[aa,z3,zw]
   have c7:w.cell? ⟨x,7,none⟩=some (.int .i64 m.id):=by simp[aa,z3,zw]
   have c9:w.cell? ⟨x,9,none⟩=some (.string (A.ld n)):=by simp[aa,z3,zw]
   have fr:∀j,w.frozen? ⟨x,j,none⟩=false:=λj=>by simp[ax,z3]
   rw[jE]at gW;have HE:=Hd (Xz hn fq jE);have H:=Hd h;have HX:=Hd (ag z1 (ag z2 z3));have mK:=Hd fq;have H0:=Hd h0;have HI:=Hd hid;have HS:=Hd oC;have HN:=Hd (NxW.of z3);rw[HE.1,HE.2.1,HE.2.2,show sv (nxM n m).sent=.string (frB 1 n m.id 0 ⟨#[]⟩)from pI _];clear h fq hk xQ z1 z2 z3 jE oC h0 hid;go_enter func46,ntmps46;go_wp2_with (first
    |(go_at_call 60;refine ng.mono ?_;rintro e w' ⟨rfl,rfl⟩)
    |(go_at_call 75;refine(U8 1 n m.id 0 ⟨#[]⟩ (by decide) (by omega) HI.o (by decide) (by decide)).mono ?_;rintro e w2 ⟨rfl,gq⟩;have Gw:=Hd (HN.below gq);obtain⟨d10,f10⟩:=Gw.cells HS.o;clear gq))
   go_ret2;have HD:=Hd (Gw.done H.o hn mK.o HX.1 HX.2.1);exact⟨rfl,{A with ld:=qx A.ld n ⟨#[]⟩},rfl,HD.1.mono λ_ h=>.inl h,HD.2⟩
end
end Ph
open Go.RowKit Go.Maps
section
variable {w w':ae} {G:Nat->Prop} {B:MA} {s:St} {n x:Nat}
theorem yx.mvb {m':Mv} (h:yx w G B s) (hn:n<4) (fq:s.mv n=some m) (oD:B.mp n=some x) (hb:But (· =x) w w') (hx:w'.heap[x]?=some (.cells (vv (B.pv n) (B.cv n) m') 110 (0,0))) (e1:m'.ps=m.ps) (e2:m'.cs=m.cs):
  yx w' G B {s with mv:=qx s.mv n (some m')}:=by
 have h0:=h.mv n hn;rw[fq]at h0;obtain⟨g,z1,z2,z3,z4,z5,z6,z7⟩:=h0;rw[oD]at z1;cases z1;have lt:∀{b:Nat} {o:Obj},w.heap[b]?=some o->b<w.heap.size:=λhb=>(zi hb).1;have iK:∀(b:Nat) (c:Array ai) (ty:bG),w.heap[b]?=some (aW c ty (0,0))->ty≠110->w'.heap[b]?=w.heap[b]?:=λb c ty eZ n1=>hb.keep b (lt eZ) λe=>by
  rw[e,z3]at eZ;exact n1 (yg eZ).symm
 obtain⟨cur,k1,k2⟩:=h.sb.2;refine⟨⟨h.ml.1,(iK _ _ _ h.ml.2 (by decide)).trans h.ml.2⟩,⟨h.sb.1,cur,(iK _ _ _ k1 (by decide)).trans k1,k2⟩,λi hi=>⟨(h.r i hi).1.block λq hq=>?_,(h.r i hi).2⟩,λi hi=>?_,h.mpi,h.cvi,h.yu.keep (λb c ty hb _ ht=>iK b c ty hb (by rcases ht with rfl|rfl<;>decide)) (λ_ h=>h) rfl rfl⟩
 ·obtain⟨c,hc⟩:=(h.r i hi).1.ty hq;exact iK q c _ hc (by decide)
 ·show nD w' G _ i (qx s.mv n _ i);by_cases e:i=n
  ·subst e;rw[jc];refine⟨x,oD,z2,hx,?_,?_,z6,z7⟩
   ·rw[e1];exact z4.block λb hb=>by
     obtain⟨c,hc⟩:=jm z4 hb;exact iK b c _ hc (by decide)
   ·rw[e2];exact z5.block λb hb=>by
     obtain⟨c,hc⟩:=jm z5 hb;exact iK b c _ hc (by decide)
  ·rw[q9 _ _ e];exact(h.mv i hi).keep (λb c ng eZ=>hb.keep b (lt eZ) λe2=>e (h.mpi i n b hi hn ng (by rw[oD,e2]))) (λb c _ hb=>iK b c _ hb (by decide)) (λb c _ hb=>iK b c _ hb (by decide))
end
namespace Ph
open Go.Conc Go.ConcN Go.RowKit Go.Maps Go.Conc.Lib Go Sim
section
variable {w w':ae} {G:Nat->Prop} {B:MA} {s:St} {n x:Nat}
structure NdW (w0:ae) (x:Nat) (pv cv:ai) (m:Mv) (w:ae):Prop where
 b:w.heap[x]?=some (.cells (vv pv cv {m with kind:=1}) 110 (0,0))
 but:But (· =x) w0 w
theorem NdW.below (h:NdW w0 x pv cv m w) (hb:aF w.heap.size w w'):NdW w0 x pv cv m w':=⟨(hb.block _ (zi h.b).1).trans h.b,h.but.trans (But.of_below hb)⟩
theorem NdW.of (h:w.heap[x]?=some (.cells (vv pv cv m) 110 (0,0))):NdW w x pv cv m (w.setCell ⟨x,7,none⟩ (.int .i64 1)):=by
 have k1:=xhs w x 7 _ _ (.int .i64 1) h;exact⟨k1.trans rfl,But.setCell (B:=(· =x)) (But.refl _ _) rfl _ _⟩
theorem NdW.cells {w0:ae} {pv cv:ai} {m:Mv} (h:NdW w0 x pv cv m w) {sb:ByteArray} (hs:sb.data.toList=m.sent):w.cell? ⟨x,5,none⟩=some (.string sb)/\w.frozen? ⟨x,5,none⟩=false/\w.cell? ⟨x,0,none⟩=some (.int .i64 m.id)/\w.cell? ⟨x,6,none⟩=some (.int .i64 m.n)/\w.cell? ⟨x,7,none⟩=some (.int .i64 1):=by
 rw[<-qw hs];exact⟨by simp[aa,h.b,vv],by simp[ax,h.b],by simp[aa,h.b,vv],by simp[aa,h.b,vv],by simp[aa,h.b,vv]⟩
theorem NdW.done {w0:ae} {m:Mv} (h:NdW w0 x (B.pv n) (B.cv n) m w) (hp:yx w0 G B s) (hn:n<4) (fq:s.mv n=some m) (oD:B.mp n=some x) (hF:G x):
  yx (w.setCell ⟨x,5,none⟩ (.string (frB 1 n m.id 0 ⟨#[]⟩))) G B {s with mv:=qx s.mv n (some (nxM n m))}/\But G w0 (w.setCell ⟨x,5,none⟩ (.string (frB 1 n m.id 0 ⟨#[]⟩))):=by
 have k:=xhs w x 5 _ _ (.string (frB 1 n m.id 0 ⟨#[]⟩)) h.b;have hb:=But.setCell (B:=(· =x)) h.but rfl 5 (.string (frB 1 n m.id 0 ⟨#[]⟩));refine⟨hp.mvb hn fq oD hb ?_ rfl rfl,hb.mono λb e=>e▸hF⟩;rw[k];have e:sv (nxM n m).sent=.string (frB 1 n m.id 0 ⟨#[]⟩):=pI _;unfold vv;rw[e];rfl
theorem q7y (h:yx w G B s) (xQ:∀i,i<4->∀m,s.mv i=some m->m.n=0/\m.id<9223372036854775808) (k:Int) (xS: -9223372036854775808<=k/\k<=9223372036854775807):
  az prog 61 #[.pointer (some ⟨B.ml,0,none⟩),.int .i64 k] w (mE w G B (.tuple #[sv (nxV s k),.int .i64 (nxE s k)]) (nxS s k)):=by
 by_cases hk:k<0\/3<k
 ·rw[(Fu hk).1,(Fu hk).2.1,(Fu hk).2.2];have H:=Hd h;clear h xQ;rcases bg k 0 with h2|h2
  ·have g1:decide (k<0)=true:=xdt h2;go_enter func61,ntmps61;go_wp2;go_ret2;exact .idle H.o (jg _ _)
  ·have g1:decide (k<0)=false:=xdf (by omega);have g2:decide (3<k)=true:=xdt (by omega);go_enter func61,ntmps61;go_wp2;go_ret2;exact .idle H.o (jg _ _)
 have c1:w.cell? ⟨B.ml,1,none⟩=some (.slice (some ⟨B.sb,0,none⟩) 4 B.cap):=(h.cells 1 _ rfl).1;obtain⟨n,rfl⟩:∃n:Nat,k=n:=⟨k.toNat,by omega⟩
 have hn:n<4:=by omega
 have tq:((n:Int)<4):=by omega
 have g1:decide ((n:Int)<0)=false:=xdf (by omega);have g2:decide ((3:Int)<n)=false:=xdf (by omega);have hm:=h.mv n hn;obtain⟨_,_,cV,fV⟩:=h.sbc hn;cases fq:s.mv n with
 |none=>
  rw[(FE hn fq).1,(FE hn fq).2.1,(FE hn fq).2.2];have H:=Hd h;rw[fq]at hm;rw[hm.1]at cV;replace cV:w.cell? ⟨B.sb,n*3+2,none⟩=some (.pointer none):=cV;clear h hm fq hk xQ fV;go_enter func61,ntmps61;go_wp2;go_ret2;exact .idle H.o (jg _ _)
 |some m=>
  rw[fq]at hm;obtain⟨x,z1,z2,z3,_⟩:=hm;rw[z1]at cV;replace cV:w.cell? ⟨B.sb,n*3+2,none⟩=some (.pointer (some ⟨x,0,none⟩)):=cV;obtain⟨sb,oC⟩:∃b:ByteArray,b.data.toList=m.sent:=⟨⟨m.sent.toArray⟩,by simp⟩
  have c5:w.cell? ⟨x,5,none⟩=some (.string sb):=by rw[<-qw oC];simp[aa,z3,vv]
  have gW:sb.toList.isEmpty=m.sent.isEmpty:=by rw[aC,oC]
  cases jE:m.sent.isEmpty
  ·rw[(FY hn fq jE).1,(FY hn fq jE).2.1,(FY hn fq jE).2.2,qw oC];rw[jE]at gW;have H:=Hd h;clear h fq hk xQ z1 z2 z3 jE oC fV;go_enter func61,ntmps61;go_wp2;go_ret2;exact .idle H.o (jg _ _)
  ·obtain⟨h0,hid⟩:=xQ n hn m fq;have c6:w.cell? ⟨x,6,none⟩=some (.int .i64 0):=by simp[aa,z3,vv,h0]
   have c7:w.cell? ⟨x,7,none⟩=some (.int .i64 m.kind):=by simp[aa,z3,vv]
   have f7:w.frozen? ⟨x,7,none⟩=false:=by simp[ax,z3]
   rw[jE]at gW;have HE:=Hd (Xz hn fq jE);have H:=Hd h;have HX:=Hd (ag z1 (ag z2 z3));have mK:=Hd fq;have H0:=Hd h0;have HI:=Hd hid;have HS:=Hd oC;have HN:=Hd (NdW.of z3);rw[HE.1,HE.2.1,HE.2.2,show sv (nxM n m).sent=.string (frB 1 n m.id 0 ⟨#[]⟩)from pI _];clear h fq hk xQ z1 z2 z3 jE oC h0 hid fV;go_enter func61,ntmps61;go_wp2;obtain⟨w1,mZ⟩:∃w1,w.setCell ⟨x,7,none⟩ (.int .i64 1)=w1:=⟨_,rfl⟩
   rw[mZ]at HN⊢;obtain⟨d5,f5,d0,d6,d7⟩:=HN.cells HS.o;rw[H0.o]at d6;clear mZ c5 c6 c7 f7;go_region_with (first|(go_at_call 100;refine(Ob 1 n m.id 0 ⟨#[]⟩ (by decide) (by omega) HI.o (by decide) (by decide)).mono ?_;rintro e w2 ⟨rfl,gq⟩;have Gw:=Hd (HN.below ((Below.drew (jg _ _)).trans (gq.mono (ji _))));obtain⟨e5,p5,_,_,_⟩:=Gw.cells HS.o;clear gq))
   all_goals go_wp2
   all_goals go_ret2
   all_goals exact⟨rfl,B,rfl,(Gw.done H.o hn mK.o HX.1 HX.2.1).1.mono λ_ h=>.inl h,(Gw.done H.o hn mK.o HX.1 HX.2.1).2⟩
end
end Ph
section
open Go.RowKit Go.Maps Ph
theorem q3t (h:jD k=true):k.length<=8:=by
 simp only[jD,aH,decide_eq_true_eq]at h;exact h.2.1
theorem q7o {v:Bs} (h:jr L):jr (chL L k v g):=by
 unfold chL;split
 ·split
  ·exact Lh h k
  ·exact OJ h k v
 ·exact h
theorem q7m {v:Bs} (h:∀p∈L,p.1.length<=8) (hk:jD k=true):∀p∈chL L k v g,p.1.length<=8:=by
 unfold chL;intro p hp;split at hp
 ·split at hp
  ·exact h p (q8t hp)
  ·rcases q8u hp with rfl|hp
   ·exact q3t hk
   ·exact h p hp
 ·exact h p hp
structure Iu (n:Nat) (m:Mv):Prop where
 cs:m.cs.length<=n
 id:m.id<=n
 nn:m.n=0
 se:m.sealed=false
 sn:m.sent.length<=32
structure Ai (n:Nat) (x:Sg):Prop where
 kv:x.kv.length<=32*n
 nx:x.next<=n+1
 id:x.id<=268435456
 ris:jr x.kv
structure Ok2 (n:Nat) (s:St):Prop where
 len:∀i,i<4->(s.kv i).length<=12
 ris:∀i,i<4->jr (s.kv i)
 key:∀i,i<4->∀p∈s.kv i,p.1.length<=8
 mv:∀i,i<4->∀m,s.mv i=some m->Iu n m
 id:s.id<=n
 hos:s.hosts<=4
 sg:∀h k,h<4->k<4->∀x,s.sg h k=some x->Ai n x
def Even (n:Nat) (c:Cst):Prop:=c.s=c.t/\Ok2 n c.s
theorem Iu.up (h:Iu n m) (k:n<=n'):Iu n' m:=⟨xlt h.cs k,xlt h.id k,h.nn,h.se,h.sn⟩
theorem Ai.up {x:Sg} (h:Ai n x) (k:n<=n'):Ai n' x:=⟨xlt h.kv (Nat.mul_le_mul_left 32 k),xlt h.nx (aU k),h.id,h.ris⟩
theorem Ok2.up {s:St} (h:Ok2 n s) (k:n<=n'):Ok2 n' s:=⟨h.len,h.ris,h.key,λi hi m hm=>(h.mv i hi m hm).up k,xlt h.id k,h.hos,λa b ha hb x hx=>(h.sg a b ha hb x hx).up k⟩
section
variable {n:Nat} {s:St}
theorem q8x (_h2:2<=h) (h4:h<=4):Ok2 n (Fg h):=⟨λi hi=>xzl _,λi hi=>.nil,λi hi p hp=>(by cases hp),λi hi m hm=>(by cases hm),xzl _,h4,λa b ha hb x hx=>(by cases hx)⟩
theorem q7q (L:KV) (cs:List Chg) (k v:ByteArray) (g:Bool):(csL L cs k v g).length<=cs.length+1:=by
 unfold csL;split
 ·simp
 ·omega
theorem jdb (h:Ok2 n s) (y z:ByteArray) (g:Bool):Ok2 (n+1) (chS s y z g):=by
 unfold chS;split
 ·rename_i hc;have hk:jD y.data.toList=true:=by simp only[aH]at hc;exact hc.1
  have hs:=Ia y.data.toList;generalize jk y.data.toList=q at*;refine⟨λi hi=>?_,λi hi=>?_,λi hi=>?_,λi hi m hm=>?_,aK h.id,h.hos,λa b ha hb x hx=>(h.sg a b ha hb x hx).up (ao n)⟩
  ·show(mh s.kv q _ i).length<=12;unfold mh;split
   ·exact q7n (h.len q hs)
   ·exact h.len i hi
  ·show jr (mh s.kv q _ i);unfold mh;split
   ·exact q7o (h.ris q hs)
   ·exact h.ris i hi
  ·show∀p∈mh s.kv q _ i,p.1.length<=8;unfold mh;split
   ·exact q7m (h.key q hs) hk
   ·exact h.key i hi
  ·have hm:qx s.mv q _ i=some m:=hm;by_cases e:i=q
   ·subst e;rw[jc]at hm;obtain⟨m0,h0,rfl⟩:=aJ.1 hm;have hq:=h.mv i hi m0 h0;exact⟨xlt (q7q ..) (aU hq.cs),aK hq.id,hq.nn,hq.se,hq.sn⟩
   ·rw[q9 _ _ e]at hm;exact(h.mv i hi m hm).up (ao n)
 ·exact h.up (ao n)
theorem jdd (h:Ok2 n s) (k to:Int):Ok2 (n+1) (mvS s k to):=by
 unfold mvS;split
 ·refine⟨h.len,h.ris,h.key,λi hi m hm=>?_,aU h.id,h.hos,λa b ha hb x hx=>(h.sg a b ha hb x hx).up (ao n)⟩;have hm:qx s.mv k.toNat _ i=some m:=hm;by_cases e:i=k.toNat
  ·subst e;rw[jc]at hm;cases hm;exact⟨xzl _,aU h.id,rfl,rfl,xzl _⟩
  ·rw[q9 _ _ e]at hm;exact(h.mv i hi m hm).up (ao n)
 ·exact h.up (ao n)
theorem UC {q:Nat} {o:Option Mv} (h:Ok2 n s) (ho:q<4->∀m,o=some m->Iu (n+1) m):Ok2 (n+1) {s with mv:=qx s.mv q o}:=by
 refine⟨h.len,h.ris,h.key,λi hi m hm=>?_,aK h.id,h.hos,λa b ha hb x hx=>(h.sg a b ha hb x hx).up (ao n)⟩;have hm:qx s.mv q o i=some m:=hm;by_cases e:i=q
 ·subst e;rw[jc]at hm;exact ho hi m hm
 ·rw[q9 _ _ e]at hm;exact(h.mv i hi m hm).up (ao n)
theorem jda (h:Ok2 n s) (k:Int):Ok2 (n+1) (abS s k):=by
 unfold abS;split
 ·exact h.up (ao n)
 ·split
  ·exact h.up (ao n)
  ·split
   ·exact h.up (ao n)
   ·exact UC h λ_ m hm=>by cases hm
theorem NG (k sh id n:Nat) (h1:id<34359738368) (h2:n<34359738368):(Fr.bytes ⟨k,sh,id,n,[]⟩).length<=32/\1<=(Fr.bytes ⟨k,sh,id,n,[]⟩).length:=by
 have a1:=AV 4 id h1;have a2:=AV 4 n h2;have a3:=AV 0 0 (by decide);simp only[Fr.bytes,Fr.body,nA,aE,aj,ak,le4];omega
theorem q8y {k:Int} (h:Ok2 n s) (hn:n<=1073741820):(nxV s k).length<=32:=by
 unfold nxV;split
 ·exact xzl _
 ·split
  ·exact xzl _
  ·rename_i m hm;have:=h.mv _ (by omega) m hm;split
   ·exact(NG 1 k.toNat m.id 0 (by have:=this.id;omega) (by decide)).1
   ·exact this.sn
theorem jde (h:Ok2 n s) (hn:n<=1073741820) (k:Int):Ok2 (n+1) (nxS s k):=by
 unfold nxS;split
 ·exact h.up (ao n)
 ·split
  ·exact h.up (ao n)
  ·rename_i m hm;split
   ·refine UC h λhq m' Qx=>?_;cases Qx;have:=h.mv _ hq m hm;exact⟨aK this.cs,aK this.id,this.nn,this.se,(NG 1 k.toNat m.id 0 (by have:=this.id;omega) (by decide)).1⟩
   ·exact h.up (ao n)
theorem yc.clu {F:Nat->Prop} {A:PA} (h:yc w F A s) (hl:∀i,i<4->(s.kv i).length<=12):Clu w A.cl A.db A.mb s.kv:=⟨λi hi=>⟨_,h.part i hi⟩,h.mbi,hl⟩
end
end
section
open Go.RowKit Go.Maps
section
variable {x:Nat->ai} {w:ae} {Q:Exit->Act->ae->Prop} {o:OpV} {W ob:Nat}
structure oN (n0:Nat) (w:ae) (W n:Nat) (cs:List Cst) (ob:Nat) (o:OpV):Prop where
 law:j4 n0 w W n cs
 ev:∀c∈cs,Even n c
 op:w.heap[ob]?=some (.cells o.cells 30 (0,0))
 oo:∀c∈cs,¬c.own ob
def jb (n0:Nat) (w:ae) (W n:Nat) (cs:List Cst) (w':ae):Prop:= ∃n' fJ,j4 n0 w' W n' fJ/\(∀c∈fJ,Even n' c)/\n'<=n+1/\fJ.length<=cs.length+1/\But (λb=>n0<=b) w w'
variable {n0 n:Nat} {cs:List Cst}
theorem j4.refl' (h:j4 n0 w W n cs) (he:∀c∈cs,Even n c) (hb:aF w.heap.size w w'):jb n0 w W n cs w':=
 ⟨n,cs,h.below hb,he,by omega,by omega,⟨hb.size,λb gK _=>hb.block b gK,hb.os,hb.output⟩⟩
theorem q58 (jF:x 3=.pointer (some ⟨ob,0,none⟩)) (h:oN n0 w W n cs ob o) (hk:o.k≠1) (hq:Q .normal ⟨SS (upd (upd (upd x 19 (.pointer (some ⟨ob,0,none⟩))) 20 (.int .i64 o.k)) 21 (.bool false)),[]⟩ w):ay prog tN Q ⟨SS x,[]⟩ w:=by
 have c0:w.cell? ⟨ob,0,none⟩=some (.int .i64 o.k):=by simp[aa,h.op,OpV.cells]
 have g1:(o.k==1)=false:=by simpa using hk
 clear h hk;obtain⟨x,rfl⟩:=qp jF;clear jF;unfold tN tB SS;simp only[Tryz.f15,ah,hd1,tl1,upd,ac,if_true,if_false];go_wp2;exact hq
theorem jj0 (jF:x 3=.pointer (some ⟨ob,0,none⟩)) (h:oN n0 w W n cs ob o) (hk:o.k=1) (hb:o.b<2\/4<o.b) (gq: -9223372036854775808<=o.b/\o.b<=9223372036854775807):ay prog tN (sj (jb n0 w W n cs)) ⟨SS x,[]⟩ w:=by
 have c0:w.cell? ⟨ob,0,none⟩=some (.int .i64 1):=by simp[aa,h.op,OpV.cells,hk]
 have c2:w.cell? ⟨ob,2,none⟩=some (.int .i64 o.b):=by simp[aa,h.op,OpV.cells]
 have H:=Hd h;have HB:=Hd (ag hb gq);clear h hk hb gq;obtain⟨x,rfl⟩:=qp jF;clear jF;unfold tN tB SS;simp only[Tryz.f15,ah,hd1,tl1,upd,ac,if_true,if_false];go_wp2_with (first
  |(go_at_call 17;refine(jc5 o.b HB.1 HB.2).mono ?_;rintro e w1 ⟨rfl,rfl⟩)
  |(go_at_call 22;refine(q9h o.b HB.1 HB.2).mono ?_;rintro e w1 ⟨rfl,rfl⟩))
 exact⟨rfl,rfl,H.law.refl' H.ev (jg _ _)⟩
end
section
variable {x:Nat->ai} {w:ae} {Q:Exit->Act->ae->Prop} {o:OpV} {W ob n0 n:Nat} {cs:List Cst}
theorem jca (w:ae) (a b:ai) (ty:bG):∀(j:Nat) (u:ai),[a,b][j]?=some u->(w.alloc (.cells #[a,b] ty)).cell? ((⟨w.heap.size,0,none⟩:Addr).add j)=some u:=λj u hj=>by
 rw[Addr.add_lit,bp];match j,hj with
 |0,hj=>simp at hj;subst hj;go_simp
 |1,hj=>simp at hj;subst hj;go_simp
structure Dm (n0:Nat) (w0 w:ae) (W n:Nat) (cs:List Cst) (c:Cst) (CS:wZ) (S:ai) (m:Nat) (bs:List Bs):Prop where
 lw:uE n0 w W n cs CS S m bs
 law:j4 n0 w W n cs
 cst:nR n0 w c
 ap:∀d∈cs,Apart d c
 off:∀b,BQ W CS S b\/mD w S b->¬c.own b
 even:Even n c
 below:aF w0.heap.size w0 w
theorem Dm.of {A:PA} {B:MA} {s:St} (h:j4 n0 w W n cs) (h1:yc w1 (λb=>w.heap.size<=b) A s) (b1:aF w.heap.size w w1) (h2:yx w2 (λb=>w1.heap.size<=b) B s) (b2:aF w1.heap.size w1 w2) (fH:Ok2 n s):
  ∃c CS S m bs,c.A=A/\c.B=B/\Dm n0 w w2 W n cs c CS S m bs:=by
 have eZ:aF w.heap.size w w2:=b1.trans (b2.mono b1.size);have hl:=h.below eZ;obtain⟨CS,S,m,bs,hw⟩:=h.b;have l0:=h.BS;have z1:=b1.size;have z2:=b2.size;have iT:∀b,(⟨A,B,λb=>w.heap.size<=b/\b<w1.heap.size,λb=>w1.heap.size<=b/\b<w2.heap.size,s,s⟩:Cst).own b->w.heap.size<=b/\b<w2.heap.size:=λb hb=>by
  rcases hb with hb|hb
  ·exact⟨hb.1,xll hb.2 z2⟩
  ·exact⟨xlt z1 hb.1,hb.2⟩
 refine⟨⟨A,B,λb=>w.heap.size<=b/\b<w1.heap.size,λb=>w1.heap.size<=b/\b<w2.heap.size,s,s⟩,CS,S,m,bs,rfl,rfl,hw.idle (But.of_below eZ),hl,⟨h1.lts.frame λb hb=>b2.block b hb.2,h2.lts,λb hb=>⟨xlt l0 (iT b hb).1,(iT b hb).2⟩,λb hf hg=>by have:=hf.2;have:=hg.1;omega⟩,λd hd b xV pR=>?_,λb hb pR=>?_,⟨rfl,fH⟩,eZ⟩
 ·have h1:=((h.each d hd).lo b xV).2;have h2:=(iT b pR).1;omega
 ·have h2:=(iT b pR).1;rcases hb with hb|hb
  ·have:=hw.lt hb;omega
  ·have fO:mD w S b:=by
    obtain⟨xs,h6⟩:=hw.ls.row;unfold mD at hb⊢;rw[Ec λq hq=>eZ.block q (h6.lt q hq).2]at hb;exact hb
   have:=hw.GZ fO;omega
theorem Dm.cell {c:Cst} {CS:wZ} {S:ai} {m:Nat} {bs:List Bs} (h:Dm n0 w0 w W n cs c CS S m bs):w.cell? ⟨W,0,none⟩=some CS.cs/\w.frozen? ⟨W,0,none⟩=false:=by
 obtain⟨cur,h1,h2,h3,h4⟩:=h.lw.ls.b;exact⟨by simp[aa,h1,h3],by simp[ax,h1]⟩
theorem Dm.done {w0 w3:ae} {c:Cst} {CS:wZ} {S v3:ai} {m:Nat} {bs:List Bs} {F7:Obj} (h:Dm n0 w0 w W n cs c CS S m bs) (he:∀c∈cs,Even n c) (hg:(w.alloc F7).grownBy w3 CS.cs.ownBlock) (rD:v3.ownBlock=CS.cs.ownBlock\/v3.ownBlock=some (w.alloc F7).heap.size) (hr:w3.ownsRow n0 56 2 v3 (cs.length+1) (qB cs++[.pointer (some ⟨c.A.cl,0,none⟩),.pointer (some ⟨c.B.ml,0,none⟩)])):
  w3.cell? ⟨W,0,none⟩=some CS.cs/\w3.frozen? ⟨W,0,none⟩=false/\jb n0 w0 W n cs (w3.setCell ⟨W,0,none⟩ v3):=by
 obtain⟨h1,h2,h3,h4⟩:=h.law.add h.lw h.cst h.ap h.off hg (λg e=>by
  rcases rD with e2|e2
  ·left;rw[<-e2];exact e
  ·right;rw[e2]at e;cases e;simp) hr
 refine⟨h1,h2,n,cs++[c],h3,λd hd=>?_,by omega,by simp,(But.of_below (B:=λb=>n0<=b) h.below).trans h4⟩;rcases List.mem_append.1 hd with hd|hd
 ·exact he d hd
 ·rw[List.mem_singleton]at hd;subst hd;exact h.even
theorem jex {k:Nat} (hW:x 0=.pointer (some ⟨W,0,none⟩)) (jF:x 3=.pointer (some ⟨ob,0,none⟩)) (h:oN n0 w W n cs ob o) (hk:o.k=1) (hb:o.b=(k:Nat)) (h2:2<=k) (h4:k<=4) (hlen:cs.length<=4398046511103):ay prog tN (sj (jb n0 w W n cs)) ⟨SS x,[]⟩ w:=by
 have c0:w.cell? ⟨ob,0,none⟩=some (.int .i64 1):=by simp[aa,h.op,OpV.cells,hk]
 have c2:w.cell? ⟨ob,2,none⟩=some (.int .i64 (k:Nat)):=by simp[aa,h.op,OpV.cells,hb]
 have H:=Hd h;have HB:=Hd (ag h2 h4);have HK:=Hd hlen;clear h hk hb h2 h4 hlen;obtain⟨x,rfl⟩:=qp hW;obtain⟨x,rfl⟩:=qp (x:=x) (j:=3) (v:=.pointer (some ⟨ob,0,none⟩)) jF;clear jF hW;obtain⟨pi,l1,l2,l3,l4⟩:=qzv;have HI:=Hd (ag l1 (ag l2 (ag l3 l4)));clear l1 l2 l3 l4;unfold tN tB SS;simp only[Tryz.f15,ah,hd1,tl1,upd,ac,if_true,if_false];go_wp2_with (first
  |(go_at_call 17;refine(q48 k HB.1 HB.2).mono ?_;rintro e w1 ⟨A,rfl,En,iq⟩;have c2:=(iq.cell (xbl w _ c2)).trans c2;have H1:=Hd (ag En iq);clear En iq)
  |(go_at_call 22;refine(q5i k HB.1 HB.2).mono ?_;rintro e w2 ⟨B,rfl,hm,hb⟩;obtain⟨c,⟨_,bv,ov⟩,S,m,bs,rfl,rfl,hN⟩:=Dm.of H.law H1.1 H1.2 hm hb (q8x HB.1 HB.2);obtain⟨sa,cp,hv⟩:=xg hN.lw.cr;replace hv:_=_:=hv;subst hv;obtain⟨d0,d1⟩:=hN.cell;have HN:=Hd hN;clear hN hm hb)
  |(at_builtin;(refine bD _ rfl (.tmp 55) (.tmp 59) 32 rfl n0 56 pi _ 2 16 underlying32 HI.1 HI.2.1 HI.2.2.1 HI.2.2.2 rfl (by decide) (.slice sa cs.length cp) cs.length (qB cs) rfl (HN.lw.cr.alloc _) ⟨w2.heap.size,0,none⟩ 1 1 [.pointer (some ⟨c.A.cl,0,none⟩),.pointer (some ⟨c.B.ml,0,none⟩)] rfl rfl (jca w2 _ _ _) (by intro u hu;simp at hu;rcases hu with rfl|rfl<;>rfl) (by have:=HK.o;unfold aO;omega) (by have:=HK.o;omega) (by have a0:=HN.law.BS;simp;omega) ?_;intro v3 w3 fF jW _ BK;have H3:=Hd (HN.done H.ev jW BK fF);obtain⟨mQ,ni,nG⟩:=xg fF;subst nG;obtain⟨d3,e3,_⟩:=H3.o;clear fF jW BK)))
 exact⟨rfl,rfl,H3.2.2⟩
end
def Jn (R:(Nat->ai)->ae->Prop):Exit->Act->ae->Prop
 |.normal,a,w=>∃x,a=⟨SS x,[]⟩/\R x w
 |_,_,_=>False
theorem PK (x:Nat->ai):SS x=((bV 224).map x).toArray:=rfl
theorem UM (h:t.size=224):SS (λi=>t.getD i aw)=t:=by
 rw[PK];apply cn
 ·simp[h]
 ·intro i h1 h2;simp[h2]
theorem jn (h:t.size=224) (r:R (λi=>t.getD i aw) w):Jn R .normal ⟨t,[]⟩ w:=⟨_,by rw[UM h],r⟩
section
variable {x:Nat->ai} {w:ae} {Q:Exit->Act->ae->Prop} {o:OpV} {W ob n0 n:Nat} {cs:List Cst}
theorem oN.Pt (h:oN n0 w W n cs ob o):∃sa cp,w.cell? ⟨W,0,none⟩=some (.slice sa cs.length cp)/\w.ownsRow n0 56 2 (.slice sa cs.length cp) cs.length (qB cs):=by
 obtain⟨CS,S,m,bs,hw⟩:=h.law.b;have h4:=hw.cr;obtain⟨cur,h1,_,h2,_⟩:=hw.ls.b;obtain⟨sa,cp,e⟩:=xg h4;rw[e]at h2 h4;exact⟨sa,cp,by simp[aa,h1,h2],h4⟩
theorem q97 (hW:x 0=.pointer (some ⟨W,0,none⟩)) (h:oN n0 w W n cs ob o) (hk:cs=[]):ay prog tEm (sj (jb n0 w W n cs)) ⟨SS x,[]⟩ w:=by
 obtain⟨sa,cp,c0,_⟩:=h.Pt;have H:=Hd h;subst hk;clear h;simp only[ak]at c0;obtain⟨x,rfl⟩:=qp hW;clear hW;unfold tEm tB SS;simp only[Tryz.f15,ah,hd1,tl1,upd,ac,if_true,if_false];go_wp2;exact⟨rfl,rfl,H.law.refl' H.ev (jg _ _)⟩
theorem q56 (hW:x 0=.pointer (some ⟨W,0,none⟩)) (jF:x 3=.pointer (some ⟨ob,0,none⟩)) (h:oN n0 w W n cs ob o) (hk:0<cs.length):
  ay prog tEm (Jn λx w'=>x 0=.pointer (some ⟨W,0,none⟩)/\x 3=.pointer (some ⟨ob,0,none⟩)/\w'=w) ⟨SS x,[]⟩ w:=by
 obtain⟨sa,cp,c0,_⟩:=h.Pt;have hn:((cs.length:Int)==0)=false:=by rw[beq_eq_false_iff_ne];omega
 clear h;obtain⟨x,rfl⟩:=qp hW;obtain⟨x,rfl⟩:=qp (x:=x) (j:=3) (v:=.pointer (some ⟨ob,0,none⟩)) jF;clear hW jF hk;unfold tEm tB SS;simp only[Tryz.f15,ah,hd1,tl1,upd,ac,if_true,if_false];go_wp2;exact jn rfl ⟨rfl,rfl,rfl⟩
theorem UZ {a:Int} {n:Nat} (h:0<n):xC a n<n:=Nat.mod_lt _ h
structure jgf (w:ae) (g W ob k n cap:Nat) (o:OpV) (c:Cst):Prop where
 c0:w.cell? ⟨W,0,none⟩=some (.slice (some ⟨g,0,none⟩) n cap)
 c1:w.cell? ⟨ob,1,none⟩=some (.int .i64 o.a)
 e0:w.cell? ⟨g,k*2,none⟩=some (.pointer (some ⟨c.A.cl,0,none⟩))
 e1:w.cell? ⟨g,k*2+1,none⟩=some (.pointer (some ⟨c.B.ml,0,none⟩))
theorem oN.pick {c:Cst} {k:Nat} (h:oN n0 w W n cs ob o) (hc:cs[k]?=some c):∃g cap,jgf w g W ob k cs.length cap o c:=by
 obtain⟨sa,cp,c0,hr⟩:=h.Pt;have eH:=(aB.1 hc).1;obtain⟨p1,p2⟩:=UY cs k c hc;rcases hr.2 with⟨_,hz⟩|⟨g,cap,cur,e,_⟩
 ·omega
 ·injection e with e1 e2 e3;subst e1;subst e3;have d1:=hr.cells (g:=g) rfl _ _ p1;have d2:=hr.cells (g:=g) rfl _ _ p2;rw[Addr.add_lit,bp]at d1 d2;exact⟨g,cp,c0,by simp[aa,h.op,OpV.cells],d1,d2⟩
theorem q45 {w:ae} {a b c d:Addr} {x y z u:ai} (o:Obj) (h1:w.cell? a=some x) (h2:w.cell? b=some y) (h3:w.cell? c=some z) (h4:w.cell? d=some u):
  (w.alloc o).cell? a=some x/\(w.alloc o).cell? b=some y/\(w.alloc o).cell? c=some z/\(w.alloc o).cell? d=some u:=by
 have hb:=(jg w.heap.size w).alloc (ji _) o;have key:∀{e:Addr} {v:ai},w.cell? e=some v->(w.alloc o).cell? e=some v:=λ{e v} h=>(hb.cell (xbl w _ h)).trans h;exact⟨key h1,key h2,key h3,key h4⟩
def Ao (w:ae) (pb:Nat) (c:Cst):Prop:=w.heap[pb]?=some (.cells #[.pointer (some ⟨c.A.cl,0,none⟩),.pointer (some ⟨c.B.ml,0,none⟩)] 56 (0,0))
theorem jj4 {c:Cst} (hW:x 0=.pointer (some ⟨W,0,none⟩)) (jF:x 3=.pointer (some ⟨ob,0,none⟩)) (h:oN n0 w W n cs ob o) (hc:cs[xC o.a cs.length]?=some c) (hl:cs.length<=4398046511104) (ha: -9223372036854775808<=o.a/\o.a<=9223372036854775807):
  ay prog tP (Jn λx w'=>x 0=.pointer (some ⟨W,0,none⟩)/\x 3=.pointer (some ⟨ob,0,none⟩)/\x 9=.pointer (some ⟨w.heap.size,0,none⟩)/\Ao w' w.heap.size c/\aF w.heap.size w w') ⟨SS x,[]⟩ w:=by
 have eH:=(aB.1 hc).1;obtain⟨g,cap,c0,c1,e0,e1⟩:=h.pick hc;have HA:=Hd ha;have HL:=Hd hl;have H0:Hid (0<cs.length):=Hd (by omega);clear h ha hl hc;generalize cs.length=m at*;obtain⟨k,hk⟩:∃k,xC o.a m=k:=⟨_,rfl⟩
 rw[hk]at eH e0 e1;have HK:=Hd hk;have Bl:(k:Int)<(m:Int):=by omega
 have fD:(0:Int)<=(k:Int):=by omega
 clear hk;obtain⟨x,rfl⟩:=qp hW;obtain⟨x,rfl⟩:=qp (x:=x) (j:=3) (v:=.pointer (some ⟨ob,0,none⟩)) jF;clear hW jF;unfold tP tB SS;simp only[Tryz.f15,ah,hd1,tl1,upd,ac,if_true,if_false];go_wp2;go_region_held3 (λw'=>w'.cell? ⟨W,0,none⟩=some (.slice (some ⟨g,0,none⟩) m cap)/\w'.cell? ⟨ob,1,none⟩=some (.int .i64 o.a)/\w'.cell? ⟨g,k*2,none⟩=some (.pointer (some ⟨c.A.cl,0,none⟩))/\w'.cell? ⟨g,k*2+1,none⟩=some (.pointer (some ⟨c.B.ml,0,none⟩)))
  (first|exact⟨c0,c1,e0,e1⟩|assumption|exact q45 _ c0 c1 e0 e1)
  (first|(go_at_call 23;refine(XC _ _ H0.o HL.o HA.1 HA.2).mono ?_;rintro e w1 ⟨rfl,rfl⟩;rw[HK.o]))
 all_goals exact jn rfl ⟨rfl,rfl,rfl,aI _ _,((jg _ _).alloc (ji _) _).drew⟩
end
noncomputable def c1:Code->Code
 |.cond _ a _=>a
 |c=>c
noncomputable def c2:Code->Code
 |.cond _ _ b=>b
 |c=>c
noncomputable def blk:Code->Code
 |.block _ c=>c
 |c=>c
noncomputable def LX:Code:=hd1 (hd1 tM)
noncomputable def tK2:Code:=blk (tl1 (hd1 tM))
noncomputable def tK3:Code:=c2 (tl1 tK2)
noncomputable def tK4:Code:=c2 (tl1 tK3)
noncomputable def tK5:Code:=c2 (tl1 tK4)
noncomputable def tK6:Code:=c2 (tl1 tK5)
noncomputable def LY:Code:=c1 (tl1 tK2)
noncomputable def LD:Code:=c1 (tl1 tK3)
noncomputable def LC:Code:=c1 (tl1 tK4)
noncomputable def oq:Code:=c1 (tl1 tK5)
noncomputable def tMv:Code:=c1 (tl1 tK6)
noncomputable def tK7:Code:=c2 (tl1 tK6)
noncomputable def tAb:Code:=c1 (tl1 tK7)
noncomputable def tK8:Code:=c2 (tl1 tK7)
noncomputable def tLk:Code:=c1 (tl1 tK8)
structure SwW (n0:Nat) (w:ae) (W n:Nat) (cs:List Cst) (ob pb k:Nat) (o:OpV) (c:Cst):Prop where
 st:oN n0 w W n cs ob o
 pr:Ao w pb c
 ck:cs[k]?=some c
 po:¬c.own pb
section
variable {x:Nat->ai} {w w1:ae} {Q:Exit->Act->ae->Prop} {o:OpV} {W ob pb k n0 n:Nat} {cs:List Cst} {c:Cst}
theorem oN.below (h:oN n0 w W n cs ob o) (hb:aF w.heap.size w w1):oN n0 w1 W n cs ob o:=⟨h.law.below hb,h.ev,(hb.block ob (zi h.op).1).trans h.op,h.oo⟩
theorem SwW.below (h:SwW n0 w W n cs ob pb k o c) (hb:aF w.heap.size w w1):SwW n0 w1 W n cs ob pb k o c:=⟨h.st.below hb,(hb.block pb (zi h.pr).1).trans h.pr,h.ck,h.po⟩
theorem SwW.mem (h:SwW n0 w W n cs ob pb k o c):c∈cs:=aL h.ck
theorem SwW.cst (h:SwW n0 w W n cs ob pb k o c):nR n0 w c:=h.st.law.each c h.mem
theorem SwW.e (h:SwW n0 w W n cs ob pb k o c):c.s=c.t:=(h.st.ev c h.mem).1
theorem SwW.ok (h:SwW n0 w W n cs ob pb k o c):Ok2 n c.s:=(h.st.ev c h.mem).2
theorem SwW.okt (h:SwW n0 w W n cs ob pb k o c):Ok2 n c.t:=h.e▸h.ok
def SwC (w:ae) (ob pb:Nat) (o:OpV) (c:Cst):Prop:=w.cell? ⟨pb,0,none⟩=some (.pointer (some ⟨c.A.cl,0,none⟩))/\w.cell? ⟨pb,1,none⟩=some (.pointer (some ⟨c.B.ml,0,none⟩))/\w.cell? ⟨ob,2,none⟩=some (.int .i64 o.b)/\w.cell? ⟨ob,7,none⟩=some (.string o.s)/\w.cell? ⟨ob,8,none⟩=some (.string o.t)/\w.cell? ⟨ob,3,none⟩=some (.int .i64 o.c)
theorem swc (h:Ao w pb c) (h2:w.heap[ob]?=some (.cells o.cells 30 (0,0))):SwC w ob pb o c:=
 ⟨by simp[aa,show w.heap[pb]?=_ from h],by simp[aa,show w.heap[pb]?=_ from h],by simp[aa,h2,OpV.cells],by simp[aa,h2,OpV.cells],by simp[aa,h2,OpV.cells],by simp[aa,h2,OpV.cells]⟩
theorem SwW.cells (h:SwW n0 w W n cs ob pb k o c):SwC w ob pb o c:=swc h.pr h.st.op
structure qF (n0:Nat) (w0 w:ae) (W n:Nat) (cs:List Cst) (ob pb k:Nat) (o:OpV) (c c':Cst) (s':St):Prop where
 law:j4 n0 w W n (cs.set k c')
 pr:Ao w pb c
 op:w.heap[ob]?=some (.cells o.cells 30 (0,0))
 but:But (λb=>n0<=b) w0 w
 t:c'.t=c.t
 s:c'.s=s'
 ml:c'.B=c.B
 cl:c'.A.cl=c.A.cl
 oo:¬c'.own ob
 po:¬c'.own pb
theorem qF.cells {w0:ae} {c':Cst} {s':St} (h:qF n0 w0 w W n cs ob pb k o c c' s'):SwC w ob pb o c:=swc h.pr h.op
theorem DL (h:SwW n0 w W n cs ob pb k o c) (hb:aF w.heap.size w w1) {args:Array ai} {v:ai} {s':St} (hc:yc w1 c.F c.A c.s->az prog f args w1 (Ph.rX w1 c.F c.A v s')):
  az prog f args w1 λe w'=>e=.returned v/\∃c',qF n0 w w' W n cs ob pb k o c c' s':=by
 have h1:=h.below hb;refine(hc h1.cst.p).mono λe w' ⟨e1,A',e2,e3,e4⟩=>⟨e1,⟨A',c.B,λb=>(c.F b\/w1.heap.size<=b)/\b<w'.heap.size,c.G,s',c.t⟩,?_⟩
 have jF:=h1.st.oo c h1.mem;have l1:=(zi h1.st.op).1;have l2:=(zi h1.pr).1;have new:∀b,b<w1.heap.size->¬c.own b->¬(⟨A',c.B,λb=>(c.F b\/w1.heap.size<=b)/\b<w'.heap.size,c.G,s',c.t⟩:Cst).own b:=λb hb hn ho=>by
  rcases ho with⟨ho|ho,_⟩|ho
  ·exact hn (.inl ho)
  ·omega
  ·exact hn (.inr ho)
 exact⟨h1.st.law.prog h1.ck e4 e3 e2,(e4.keep pb l2 λx=>h1.po (.inl x)).trans h1.pr,(e4.keep ob l1 λx=>jF (.inl x)).trans h1.st.op,(But.of_below (B:=λb=>n0<=b) hb).trans (e4.mono λb hf=>(h1.cst.lo b (.inl hf)).1),rfl,rfl,rfl,e2,new ob l1 jF,new pb l2 h1.po⟩
theorem Ki {c':Cst} {s':St} (h:qF n0 w0 w W n cs ob pb k o c c' s') (hb:aF w.heap.size w w1) (hk:cs[k]?=some c) (he:∀c∈cs,Even n c) {args:Array ai} {v:ai} (hc:yx w1 c'.G c.B c.t->az prog f args w1 (Ph.mE w1 c'.G c.B v s')) (fH:Ok2 (n+1) s'):
  az prog f args w1 λe w'=>e=.returned v/\jb n0 w0 W n cs w'/\SwC w' ob pb o c:=by
 have eH:=(aB.1 hk).1;have pO:(cs.set k c')[k]?=some c':=bq eH;have h1:=h.law.below hb;have kH:=h1.each c' (aL pO);have hm:yx w1 c'.G c.B c.t:=by rw[<-h.t,<-h.ml];exact kH.m
 refine(hc hm).mono λe w' ⟨e1,B',e2,e3,e4⟩=>⟨e1,⟨n+1,_,((h1.doc pO e4 e3 (e2.trans (by rw[h.ml]))).up (ao n)),λd hd=>?_,ji _,by simp,h.but.trans ((But.of_below (B:=λb=>n0<=b) hb).trans (e4.mono λb hg=>(kH.lo b (.inr hg)).1))⟩,?_⟩
 ·rw[List.set_set]at hd;rcases bi hd with hd|hd
  ·exact⟨(he d hd).1,(he d hd).2.up (ao n)⟩
  ·subst hd;exact⟨h.s,by rw[show(Cst.s _)=s' from h.s];exact fH⟩
 ·have l1:=(zi h.op).1;have l2:=(zi h.pr).1;have z:=hb.size;exact swc ((e4.keep pb (by omega) λx=>h.po (.inr x)).trans ((hb.block pb l2).trans h.pr)) ((e4.keep ob (by omega) λx=>h.oo (.inr x)).trans ((hb.block ob l1).trans h.op))
theorem jdp (h:SwW n0 w W n cs ob pb k o c) (hb:aF w.heap.size w w1) (hs:o.s.size<=aO) (hn:n<=1073741820):
  az prog 18 #[.pointer (some ⟨c.A.cl,0,none⟩),.string o.s,.string o.t] w1 λe w'=>e=.returned (.int .i64 (Ph.chE c.s o.s o.t false))/\∃c',qF n0 w w' W n cs ob pb k o c c' (Ph.chS c.s o.s o.t false):=
 DL h hb λhp=>Ph.jdn hp h.ok.len (λi hi m hm=>by have:=(h.ok.mv i hi m hm).cs;omega) o.s o.t hs
theorem jce (h:SwW n0 w W n cs ob pb k o c) (hb:aF w.heap.size w w1) (hs:o.s.size<=aO) (hn:n<=1073741820):
  az prog 25 #[.pointer (some ⟨c.A.cl,0,none⟩),.string o.s] w1 λe w'=>e=.returned (.int .i64 (Ph.chE c.s o.s ⟨#[]⟩ true))/\∃c',qF n0 w w' W n cs ob pb k o c c' (Ph.chS c.s o.s ⟨#[]⟩ true):=
 DL h hb λhp=>Ph.qzy hp h.ok.len (λi hi m hm=>by have:=(h.ok.mv i hi m hm).cs;omega) o.s hs
theorem X0 {c':Cst} {y z:ByteArray} (h0:SwW n0 w0 W n cs ob pb k o c) (h:qF n0 w0 w W n cs ob pb k o c c' (Ph.chS c.s y z g)) (hb:aF w.heap.size w w1) (hn:n<=1073741820):
  az prog 24 #[.pointer (some ⟨c.B.ml,0,none⟩),.agg #[.string y,.string z,.bool g]] w1 λe w'=>e=.returned (.int .i64 (Ph.chE c.s y z g))/\jb n0 w0 W n cs w'/\SwC w' ob pb o c:=by
 refine Ki h hb h0.ck h0.st.ev (λhm=>?_) (jdb h0.ok y z g);rw[h0.e];exact Ph.qy9 hm h0.okt.len h0.okt.ris (λi hi m hm=>by have:=(h0.okt.mv i hi m hm).cs;omega) y z g
theorem jad (jF:x 3=.pointer (some ⟨ob,0,none⟩)) (nH:x 9=.pointer (some ⟨pb,0,none⟩)) (h:SwW n0 w W n cs ob pb k o c) (hs:o.s.size<=aO/\n<=1073741820):ay prog LY (sj (jb n0 w W n cs)) ⟨SS x,[]⟩ w:=by
 obtain⟨a1,a2,a3,a4,a5,a6⟩:=h.cells;have H:=Hd h;have HS:=Hd hs;clear h hs;obtain⟨x,rfl⟩:=qp jF;obtain⟨x,rfl⟩:=qp (x:=x) (j:=9) (v:=.pointer (some ⟨pb,0,none⟩)) nH;clear jF nH;unfold LY tK2 tM tB SS;simp only[Tryz.f15,ah,hd1,tl1,c1,c2,blk,upd,ac,if_true,if_false];go_wp2;go_region_held3 (λw'=>w'.cell? ⟨pb,0,none⟩=some (.pointer (some ⟨c.A.cl,0,none⟩))/\w'.cell? ⟨pb,1,none⟩=some (.pointer (some ⟨c.B.ml,0,none⟩))/\w'.cell? ⟨ob,7,none⟩=some (.string o.s)/\w'.cell? ⟨ob,8,none⟩=some (.string o.t))
  (first|exact⟨a1,a2,a4,a5⟩|exact⟨H1.cells.1,H1.cells.2.1,H1.cells.2.2.2.1,H1.cells.2.2.2.2.1⟩|exact⟨H2.2.1,H2.2.2.1,H2.2.2.2.2.1,H2.2.2.2.2.2.1⟩)
  (first
   |(go_at_call 18;refine(jdp H.o (by first|exact jg _ _|exact(jg _ _).drew) HS.1 HS.2).mono ?_;rintro e w1 ⟨rfl,c',h1⟩;have H1:=Hd h1;clear h1)
   |(go_at_call 24;refine(X0 H.o H1.o (by first|exact jg _ _|exact(jg _ _).drew) HS.2).mono ?_;rintro e w2 ⟨rfl,h2⟩;have H2:=Hd h2;clear h2))
 go_wp2;exact⟨rfl,rfl,H2.1⟩
theorem q96 (jF:x 3=.pointer (some ⟨ob,0,none⟩)) (nH:x 9=.pointer (some ⟨pb,0,none⟩)) (h:SwW n0 w W n cs ob pb k o c) (hs:o.s.size<=aO/\n<=1073741820):ay prog LD (sj (jb n0 w W n cs)) ⟨SS x,[]⟩ w:=by
 obtain⟨a1,a2,a3,a4,a5,a6⟩:=h.cells;have H:=Hd h;have HS:=Hd hs;clear h hs;obtain⟨x,rfl⟩:=qp jF;obtain⟨x,rfl⟩:=qp (x:=x) (j:=9) (v:=.pointer (some ⟨pb,0,none⟩)) nH;clear jF nH;unfold LD tK3 tK2 tM tB SS;simp only[Tryz.f15,ah,hd1,tl1,c1,c2,blk,upd,ac,if_true,if_false];go_wp2;go_region_held3 (λw'=>w'.cell? ⟨pb,0,none⟩=some (.pointer (some ⟨c.A.cl,0,none⟩))/\w'.cell? ⟨pb,1,none⟩=some (.pointer (some ⟨c.B.ml,0,none⟩))/\w'.cell? ⟨ob,7,none⟩=some (.string o.s))
  (first|exact⟨a1,a2,a4⟩|exact⟨H1.cells.1,H1.cells.2.1,H1.cells.2.2.2.1⟩|exact⟨H2.2.1,H2.2.2.1,H2.2.2.2.2.1⟩)
  (first
   |(go_at_call 25;refine(jce H.o (by first|exact jg _ _|exact(jg _ _).drew) HS.1 HS.2).mono ?_;rintro e w1 ⟨rfl,c',h1⟩;have H1:=Hd h1;clear h1)
   |(go_at_call 24;refine(X0 H.o H1.o (by first|exact jg _ _|exact(jg _ _).drew) HS.2).mono ?_;rintro e w2 ⟨rfl,h2⟩;have H2:=Hd h2;clear h2))
 go_wp2;exact⟨rfl,rfl,H2.1⟩
end
section
variable {x:Nat->ai} {w w1:ae} {Q:Exit->Act->ae->Prop} {o:OpV} {W ob pb k n0 n:Nat} {cs:List Cst} {c:Cst}
theorem oN.idle (h:oN n0 w W n cs ob o) (hb:But (λ_=>False) w w1):oN n0 w1 W n cs ob o:=⟨h.law.idle hb,h.ev,(hb.keep ob (zi h.op).1 id).trans h.op,h.oo⟩
theorem SwW.idle (h:SwW n0 w W n cs ob pb k o c) (hb:But (λ_=>False) w w1):SwW n0 w1 W n cs ob pb k o c:=⟨h.st.idle hb,(hb.keep pb (zi h.pr).1 id).trans h.pr,h.ck,h.po⟩
theorem jb.pre (h:jb n0 w1 W n cs w') (hb:But (λb=>n0<=b) w w1):jb n0 w W n cs w':=by
 obtain⟨n',fJ,h1,h2,h3,h4,h5⟩:=h;exact⟨n',fJ,h1,h2,h3,h4,hb.trans h5⟩
theorem jaa (jF:x 3=.pointer (some ⟨ob,0,none⟩)) (nH:x 9=.pointer (some ⟨pb,0,none⟩)) (h:SwW n0 w W n cs ob pb k o c) (hs:o.s.size<=aO):ay prog LC (sj (jb n0 w W n cs)) ⟨SS x,[]⟩ w:=by
 obtain⟨a1,a2,a3,a4,a5,a6⟩:=h.cells;have H:=Hd h;have HS:=Hd hs;clear h hs a3 a5 a6;obtain⟨x,rfl⟩:=qp jF;obtain⟨x,rfl⟩:=qp (x:=x) (j:=9) (v:=.pointer (some ⟨pb,0,none⟩)) nH;clear jF nH;have HE:=Hd H.e;obtain⟨gs,hg⟩:∃gs,sv (Di c.s.kv o.s.data.toList)=.string gs:=⟨_,rfl⟩
 obtain⟨ge,jK⟩:∃ge,Dj c.s.kv o.s.data.toList=ge:=⟨_,rfl⟩
 have HG:=Hd (ag hg jK);clear hg jK;unfold LC tK4 tK3 tK2 tM tB SS;simp only[Tryz.f15,ah,hd1,tl1,c1,c2,blk,upd,ac,if_true,if_false];go_wp2_with (first
  |(go_at_call 19;refine(q8b (H.cst.p.clu H.ok.len) o.s HS.o).mono ?_;rintro e w1 ⟨rfl,iq⟩;have H1:=Hd (H.below iq);obtain⟨a1,a2,a3,a4,a5,a6⟩:=H1.cells;rw[HG.1,HG.2];have lH:=Hd iq;clear iq a3 a5 a6)
  |(go_at_call 26;refine(jdw o.s H1.okt.len H1.okt.ris H1.cst.m.mdl).mono ?_;rintro e w2 ⟨rfl,gq⟩;rw[<-HE.o,HG.1,HG.2];have iC:=Hd gq;clear gq))
 exact⟨rfl,rfl,H.st.law.refl' H.st.ev (lH.trans (iC.mono lH.size))⟩
end
section
variable {x:Nat->ai} {w w1 w2:ae} {Q:Exit->Act->ae->Prop} {o:OpV} {W ob pb k n0 n base:Nat} {cs:List Cst} {c:Cst} {v:ai} {l:KV}
def Low (w:ae) (W:Nat) (cs:List Cst) (base:Nat):Prop:=(∀c∈cs,∀b,c.own b->b<base)/\∀S,w.cell? ⟨W,2,none⟩=some S->∀g,mD w S g->g<base
theorem j4.low (h:j4 n0 w W n cs):Low w W cs w.heap.size:=⟨λc hc b hb=>((h.each c hc).lo b hb).2,λS hS g hg=>by
 obtain⟨CS,S',m,bs,hw⟩:=h.b;rw[hw.ls.cell.1]at hS;cases hS
 exact hw.GZ hg⟩
theorem Low.idle (h:Low w W cs base) (hl:j4 n0 w W n cs) (hb:But (λ_=>False) w w1):Low w1 W cs base:=⟨h.1,λS hS g hg=>by
 obtain⟨CS,S',m,bs,hw⟩:=hl.b;obtain⟨c1,_,c3⟩:=hw.ls.cell;have e:w1.cell? ⟨W,2,none⟩=w.cell? ⟨W,2,none⟩:=xcb (hb.keep W c3 id);rw[e,c1]at hS;cases hS;obtain⟨xs,hx⟩:=hw.ls.row;refine h.2 _ c1 g ?_;unfold mD at hg⊢;rw[Ec λq hq=>hb.keep q (hx.lt q hq).2 id]at hg
 exact hg⟩
theorem q38 (h:j4 n0 w W n cs) (hn:n<=4398046511103) (hr:w.ownsRow base 74 2 v l.length (flat l)) (hl:l.length<=1073741820) (hb:n0<=base) (Ev:base<=w.heap.size) (jO:Low w W cs base):
  az prog 30 #[.pointer (some ⟨W,0,none⟩),v] w λe w'=>(e=.returned (.tuple #[]))/\j4 n0 w' W (n+1) cs/\But (λb=>n0<=b) w w':=by
 obtain⟨CS,S,m,bs,hw⟩:=h.b;have Zg:m<=4398046511103:=by have:=hw.le.1;omega
 have hO:∀g',CS.out g'->g'<base:=λg' ho=>by
  rw[hw.out]at ho;obtain⟨c,hc,pR⟩:=ho;exact jO.1 c hc g' pR
 have key:∀w',(∃S',lJ n0 w' W CS S' (m+1)/\∀g,S'.ownBlock=some g->S.ownBlock=some g\/w.heap.size<=g)->But (Ap W S v) w w'->j4 n0 w' W (n+1) cs/\But (λb=>n0<=b) w w':=λw' h1 h2=>by
  refine⟨h.ji1 hw h2 hr (λc hc b pR=>jO.1 c hc b pR) h1,h2.mono λb gK=>?_⟩;rcases gK with e|e|e
  ·subst e;exact h.lo
  ·obtain⟨xs,hx⟩:=hw.ls.row;exact(hx.lt b e).1
  ·exact xlt hb (hr.lt b e).1
 rcases hr.2 with⟨e,hz⟩|⟨g,cap,cur,e,_⟩
 ·subst e;exact(q37 hw.ls Zg h.BS λg' ho=>xll (hO g' ho) Ev).mono λe w' ⟨h1,h2,h3⟩=>⟨h1,key w' h2 h3⟩
 ·subst e;have nL:∀g',mD w S g'->g'≠g:=λg' fO e=>by
   have h1:=jO.2 S hw.ls.cell.1 g' fO;have h2:=(hr.lt g rfl).1;omega
  exact(qzo hw.ls Zg hr hl h.BS nL hO).mono λe w' ⟨h1,h2,h3⟩=>⟨h1,key w' h2 h3⟩
def NS (w:ae) (c:Cst) (o:OpV) (l:KV) (er:Int):Prop:=az prog 28 #[.pointer (some ⟨c.B.ml,0,none⟩),.string o.s,.string o.t,.int .i64 o.b] w λe w'=>∃v' b',e=.returned (.tuple #[v',.int .i64 er])/\w'.ownsRow b' 74 2 v' l.length (flat l)/\aF w.heap.size w w'
theorem q6a {er:Int} (hW:x 0=.pointer (some ⟨W,0,none⟩)) (jF:x 3=.pointer (some ⟨ob,0,none⟩)) (nH:x 9=.pointer (some ⟨pb,0,none⟩)) (hv:x 14=v) (Zm:x 15=.int .i64 er) (h:SwW n0 w W n cs ob pb k o c) (hn:n<=4398046511103)
  (hr:w.ownsRow base 74 2 v l.length (flat l)) (hl:l.length<=1073741820) (hb:n0<=base) (Ev:base<=w.heap.size) (jO:Low w W cs base) (hd:NS w c o l er):ay prog (tl1 oq) (sj (jb n0 w W n cs)) ⟨SS x,[]⟩ w:=by
 obtain⟨a1,a2,a3,a4,a5,a6⟩:=h.cells;have H:=Hd h;have HR:=Hd hr;have HN:=Hd (ag hn (ag hl (ag hb (ag jO hd))));have MF:=Hd Ev;clear h hr hn hl hb jO hd Ev a1 a6;obtain⟨x,rfl⟩:=qp hW;obtain⟨x,rfl⟩:=qp (x:=x) (j:=3) (v:=.pointer (some ⟨ob,0,none⟩)) jF;obtain⟨x,rfl⟩:=qp (x:=x) (j:=9) (v:=.pointer (some ⟨pb,0,none⟩)) nH;obtain⟨x,rfl⟩:=qp (x:=x) (j:=14) (v:=v) hv;obtain⟨x,rfl⟩:=qp (x:=x) (j:=15) (v:=.int .i64 er) Zm;clear hW jF nH hv Zm;unfold oq tK5 tK4 tK3 tK2 tM tB SS;simp only[Tryz.f15,ah,hd1,tl1,c1,c2,blk,upd,ac,if_true,if_false];go_wp2_with (first
  |(go_at_call 28;refine HN.2.2.2.2.mono ?_;rintro e w1 ⟨v',b',rfl,El,iq⟩;have H1:=Hd (H.below iq);have HR1:=Hd El;have lH:=Hd iq;clear iq El)
  |(go_at_call 29;refine(jd4 (qi HR.o λg hg=>lH.block g (HR.lt g hg).2) HR1.o (by have:=HN.2.1;omega)).mono ?_;rintro e w2 ⟨rfl,gq⟩;have H2:=Hd (H1.below gq);have iC:=Hd (lH.trans (gq.mono lH.size));clear gq)
  |(go_at_call 30;refine(q38 H2.st.law HN.1 (qi HR.o λg hg=>iC.block g (HR.lt g hg).2) HN.2.1 HN.2.2.1 (xlt MF.o iC.size) (HN.2.2.2.1.idle H.st.law (But.of_below iC.o))).mono ?_;rintro e w3 ⟨rfl,h3⟩;have H3:=Hd h3;clear h3))
 exact⟨rfl,rfl,n+1,cs,H3.1,λc hc=>⟨(H.st.ev c hc).1,(H.st.ev c hc).2.up (ao n)⟩,ji _,by omega,(But.of_below iC.o).trans H3.2⟩
end
structure FrX (W ob pb:Nat) (k:Int) (x:Nat->ai):Prop where
 w:x 0=.pointer (some ⟨W,0,none⟩)
 o:x 3=.pointer (some ⟨ob,0,none⟩)
 p:x 9=.pointer (some ⟨pb,0,none⟩)
 k:x 84=.int .i64 k
section
variable {x:Nat->ai} {w w1 w2:ae} {Q:Exit->Act->ae->Prop} {o:OpV} {W ob pb k n0 n base:Nat} {cs:List Cst} {c:Cst} {v:ai} {l:KV} {kd:Int}
theorem jaf (hW:x 0=.pointer (some ⟨W,0,none⟩)) (jF:x 3=.pointer (some ⟨ob,0,none⟩)) (nH:x 9=.pointer (some ⟨pb,0,none⟩)) (h:SwW n0 w W n cs ob pb k o c):ay prog LX (Jn λx w'=>FrX W ob pb o.k x/\w'=w) ⟨SS x,[]⟩ w:=by
 have c0:w.cell? ⟨ob,0,none⟩=some (.int .i64 o.k):=by simp[aa,h.st.op,OpV.cells]
 clear h;obtain⟨x,rfl⟩:=qp hW;obtain⟨x,rfl⟩:=qp (x:=x) (j:=3) (v:=.pointer (some ⟨ob,0,none⟩)) jF;obtain⟨x,rfl⟩:=qp (x:=x) (j:=9) (v:=.pointer (some ⟨pb,0,none⟩)) nH;clear hW jF nH;unfold LX tM tB SS;simp only[Tryz.f15,ah,hd1,tl1,upd,ac,if_true,if_false];go_wp2;exact jn rfl ⟨⟨rfl,rfl,rfl,rfl⟩,rfl⟩
theorem FrX.lay (h:FrX W ob pb kd x):∃y,x=upd (upd (upd (upd y 84 (.int .i64 kd)) 9 (.pointer (some ⟨pb,0,none⟩))) 3 (.pointer (some ⟨ob,0,none⟩))) 0 (.pointer (some ⟨W,0,none⟩)):=by
 obtain⟨x,rfl⟩:=qp h.w;obtain⟨x,rfl⟩:=qp (x:=x) (j:=3) (v:=.pointer (some ⟨ob,0,none⟩)) h.o;obtain⟨x,rfl⟩:=qp (x:=x) (j:=9) (v:=.pointer (some ⟨pb,0,none⟩)) h.p;obtain⟨x,rfl⟩:=qp (x:=x) (j:=84) (v:=.int .i64 kd) h.k;exact⟨x,rfl⟩
theorem sw2 (h:FrX W ob pb kd x):ay prog (hd1 tK2) (Jn λx w'=>FrX W ob pb kd x/\x 85=.bool (kd==2)/\w'=w) ⟨SS x,[]⟩ w:=by
 obtain⟨x,rfl⟩:=h.lay;clear h;unfold tK2 tM tB SS;simp only[Tryz.f15,ah,hd1,tl1,blk,upd,ac,if_true,if_false];go_wp2;exact jn rfl ⟨⟨rfl,rfl,rfl,rfl⟩,rfl,rfl⟩
theorem sw3 (h:FrX W ob pb kd x):ay prog (hd1 tK3) (Jn λx w'=>FrX W ob pb kd x/\x 103=.bool (kd==3)/\w'=w) ⟨SS x,[]⟩ w:=by
 obtain⟨x,rfl⟩:=h.lay;clear h;unfold tK3 tK2 tM tB SS;simp only[Tryz.f15,ah,hd1,tl1,c2,blk,upd,ac,if_true,if_false];go_wp2;exact jn rfl ⟨⟨rfl,rfl,rfl,rfl⟩,rfl,rfl⟩
theorem sw4 (h:FrX W ob pb kd x):ay prog (hd1 tK4) (Jn λx w'=>FrX W ob pb kd x/\x 117=.bool (kd==4)/\w'=w) ⟨SS x,[]⟩ w:=by
 obtain⟨x,rfl⟩:=h.lay;clear h;unfold tK4 tK3 tK2 tM tB SS;simp only[Tryz.f15,ah,hd1,tl1,c2,blk,upd,ac,if_true,if_false];go_wp2;exact jn rfl ⟨⟨rfl,rfl,rfl,rfl⟩,rfl,rfl⟩
theorem sw5 (h:FrX W ob pb kd x):ay prog (hd1 tK5) (Jn λx w'=>FrX W ob pb kd x/\x 143=.bool (kd==5)/\w'=w) ⟨SS x,[]⟩ w:=by
 obtain⟨x,rfl⟩:=h.lay;clear h;unfold tK5 tK4 tK3 tK2 tM tB SS;simp only[Tryz.f15,ah,hd1,tl1,c2,blk,upd,ac,if_true,if_false];go_wp2;exact jn rfl ⟨⟨rfl,rfl,rfl,rfl⟩,rfl,rfl⟩
theorem sw6 (h:FrX W ob pb kd x):ay prog (hd1 tK6) (Jn λx w'=>FrX W ob pb kd x/\x 181=.bool (kd==6)/\w'=w) ⟨SS x,[]⟩ w:=by
 obtain⟨x,rfl⟩:=h.lay;clear h;unfold tK6 tK5 tK4 tK3 tK2 tM tB SS;simp only[Tryz.f15,ah,hd1,tl1,c2,blk,upd,ac,if_true,if_false];go_wp2;exact jn rfl ⟨⟨rfl,rfl,rfl,rfl⟩,rfl,rfl⟩
theorem sw7 (h:FrX W ob pb kd x):ay prog (hd1 tK7) (Jn λx w'=>FrX W ob pb kd x/\x 198=.bool (kd==7)/\w'=w) ⟨SS x,[]⟩ w:=by
 obtain⟨x,rfl⟩:=h.lay;clear h;unfold tK7 tK6 tK5 tK4 tK3 tK2 tM tB SS;simp only[Tryz.f15,ah,hd1,tl1,c2,blk,upd,ac,if_true,if_false];go_wp2;exact jn rfl ⟨⟨rfl,rfl,rfl,rfl⟩,rfl,rfl⟩
theorem sw8 (h:FrX W ob pb kd x):ay prog (hd1 tK8) (Jn λx w'=>FrX W ob pb kd x/\x 211=.bool (kd==8)/\w'=w) ⟨SS x,[]⟩ w:=by
 obtain⟨x,rfl⟩:=h.lay;clear h;unfold tK8 tK7 tK6 tK5 tK4 tK3 tK2 tM tB SS;simp only[Tryz.f15,ah,hd1,tl1,c2,blk,upd,ac,if_true,if_false];go_wp2;exact jn rfl ⟨⟨rfl,rfl,rfl,rfl⟩,rfl,rfl⟩
theorem jd5 {wp:ai} {p q:ai} (h9:o.k≠9) (iQ:o.k≠10) (jA:o.k≠11) (iy:o.k≠12):az prog 37 #[wp,.agg #[p,q],.agg o.cells] w λe w'=>e=.returned (.bool true)/\aF w.heap.size w w':=by
 have g1:(o.k==9)=false:=by simpa using h9
 have g2:(o.k==10)=false:=by simpa using iQ
 have g3:(o.k==11)=false:=by simpa using jA
 have g4:(o.k==12)=false:=by simpa using iy
 clear h9 iQ jA iy;unfold OpV.cells;go_enter func37,ntmps37;go_wp2;go_ret;exact⟨rfl,((jg _ _).alloc (ji _) _).alloc (by simp) _⟩
theorem q98 (h:FrX W ob pb kd x) (hs:SwW n0 w W n cs ob pb k o c) (h9:o.k≠9) (iQ:o.k≠10) (jA:o.k≠11) (iy:o.k≠12):ay prog (tl1 tM) (sj (jb n0 w W n cs)) ⟨SS x,[]⟩ w:=by
 obtain⟨x,rfl⟩:=h.lay;have HS:=Hd hs;have HK:=Hd (ag h9 (ag iQ (ag jA iy)));have p0:w.heap[pb]?=some (.cells #[.pointer (some ⟨c.A.cl,0,none⟩),.pointer (some ⟨c.B.ml,0,none⟩)] 56 (0,0)):=hs.pr;have o0:w.heap[ob]?=some (.cells #[.int .i64 o.k,.int .i64 o.a,.int .i64 o.b,.int .i64 o.c,.int .i64 o.d,.int .i64 o.e,.int .i64 o.f,.string o.s,.string o.t,.string o.u] 30 (0,0)):=hs.st.op;obtain⟨q0,q1,_⟩:=hs.cells;have r0:w.cell? ⟨ob,0,none⟩=some (.int .i64 o.k):=by simp[aa,o0]
 have r1:w.cell? ⟨ob,1,none⟩=some (.int .i64 o.a):=by simp[aa,o0]
 have r2:w.cell? ⟨ob,2,none⟩=some (.int .i64 o.b):=by simp[aa,o0]
 have r3:w.cell? ⟨ob,3,none⟩=some (.int .i64 o.c):=by simp[aa,o0]
 have r4:w.cell? ⟨ob,4,none⟩=some (.int .i64 o.d):=by simp[aa,o0]
 have r5:w.cell? ⟨ob,5,none⟩=some (.int .i64 o.e):=by simp[aa,o0]
 have r6:w.cell? ⟨ob,6,none⟩=some (.int .i64 o.f):=by simp[aa,o0]
 have r7:w.cell? ⟨ob,7,none⟩=some (.string o.s):=by simp[aa,o0]
 have r8:w.cell? ⟨ob,8,none⟩=some (.string o.t):=by simp[aa,o0]
 have r9:w.cell? ⟨ob,9,none⟩=some (.string o.u):=by simp[aa,o0]
 clear h hs h9 iQ jA iy p0 o0;unfold tM tB SS;simp only[Tryz.f15,ah,hd1,tl1,upd,ac,if_true,if_false];go_wp2_with (go_at_call 37;refine(jd5 (o:=o) HK.1 HK.2.1 HK.2.2.1 HK.2.2.2).mono ?_;rintro e w1 ⟨rfl,iq⟩;have lH:=Hd iq;clear iq)
 exact⟨rfl,rfl,HS.st.law.refl' HS.st.ev lH.o⟩
end
end
namespace Ph
section
open Go.Conc Go.ConcN Go.RowKit Go.Maps Go Sim
theorem UQ (L:Nat->KV) (f:Bs×Bs->Bool) (most:Nat):∀i,lm most (λi=>((L i).filter f).length) (λi=>flat ((L i).filter f)) i=(((cat L f i).take most).length,flat ((cat L f i).take most))
 |0=>by simp[lm,cat,zF]
 |i+1=>by
  simp only[lm];rw[UQ L f most i];simp only[cat];have e0:most-((cat L f i).take most).length=most-(cat L f i).length:=by rw[aN];omega
  have e1:∀j,((L i).filter f).take (min ((L i).filter f).length j)=((L i).filter f).take j:=λj=>by
   rw[Nat.min_comm,<-List.take_take,bP]
  rw[e0,Oz,e1,List.take_append,Ib];congr 1;rw[aE,aN (i:=most-_)];omega
theorem Uo {F:FuncId->Prop} {ρ:Rel}:∀{l:List MapEntry},(∀x∈l,ER F ρ x x)->EsR F ρ l l
 |[],_=>.nil
 |x::l,h=>.cons (h x (.head _)) (Uo λy hy=>h y (.tail _ hy))
theorem jc3 {mb:Nat} (h:zk w mb L):∃p:Array MapEntry×Nat,w.heap[mb]?=some (.map p.1 p.2)/\(∀(F:FuncId->Prop) ρ,EsR F ρ p.1.toList p.1.toList)/\∀wl:ae,wl.heap[mb]?=some (.map p.1 p.2)->zk wl mb L:=by
 obtain⟨es,ck,h1,h2,h3⟩:=h;refine⟨(es,ck),h1,λF ρ=>Uo λx hx=>?_,λwl L6=>⟨es,ck,L6,h2,h3⟩⟩;obtain⟨y,hy⟩:=h2.reads x hx;have kZ:=WideElems.rd_key hy;obtain⟨s,hs⟩:=Maps.keyOf_string_inv underlying9 kZ;obtain⟨ky,vl,bn⟩:=x;subst hs;refine⟨.string s,?_,rfl⟩;unfold WideElems.rd at hy;simp only[aq,aJ]at hy;obtain⟨_,_,z,hz,_⟩:=hy;cases vl with
 |agg cs=>
  simp only[Rv]at hz;split at hz
  ·rename_i s' e;obtain⟨l⟩:=cs;subst e;exact .agg (.cons (.string s') .nil)
  ·cases hz
 |_=>cases hz
section
variable {N:Blocks} {kv:List ai} {w:ae} {cl:Nat} {db mb:Nat->Nat} {L:Nat->KV} {s t:ByteArray} {most:Nat}
theorem q5j {w:ae} {b:Nat} {v:ai} {l:KV} (h:zy w b v l):qE (λ_=>True) w v l.length (flat l):=by
 refine⟨h.1.1,h.1.2.imp id ?_⟩;rintro⟨g,cap,cur,rfl,_,h2,h3,h4,h5,h6⟩;obtain⟨um,TJ,k1,k2⟩:=h.2 g rfl;rw[h2]at k1;cases k1;exact⟨g,cap,cur,rfl,trivial,h2,h3,h4,h6,k2⟩
theorem q5r (h:Clu w cl db mb L) (xV:∀i,i<4->w.heap[db i]?=some (.cells #[.map (some (mb i))] 142 (0,0))) (RZ:∀i,i<4->jr (L i)) (kZ:∀i,i<4->∀p∈L i,p.1.length<=8) (Dz:most<=9223372036854775807) (hN:∀b,N b->b<w.heap.size):
  oz N kv fS #[.pointer (some ⟨cl,0,none⟩),.string s,.string t,.int .i64 most] w λv w'=>
   ∃ov,v=.tuple #[ov,.int .i64 0]/\w'.ownsRow w.heap.size 74 2 ov ((cat L (inB s.data.toList t.data.toList) 4).take most).length (flat ((cat L (inB s.data.toList t.data.toList) 4).take most))/\(∀b,b<w.heap.size->w'.heap[b]?=w.heap[b]?)/\w.heap.size<=w'.heap.size/\w'.os=w.os/\w'.output=w.output:=by
 have hc:∀i,∃p:Array MapEntry×Nat,i<4->w.heap[mb i]?=some (.map p.1 p.2)/\(∀(F:FuncId->Prop) ρ,EsR F ρ p.1.toList p.1.toList)/\∀wl:ae,wl.heap[mb i]?=some (.map p.1 p.2)->zk wl (mb i) (L i):=λi=>by
  by_cases hi:i<4
  ·obtain⟨mv,hpi⟩:=h.p i hi;obtain⟨p,hp⟩:=jc3 hpi.l;exact⟨p,λ_=>hp⟩
  ·exact⟨(#[],0),λfI=>absurd fI hi⟩
 obtain⟨es,jX⟩:=Classical.axiomOfChoice hc;have ht:=UQ L (inB s.data.toList t.data.toList) most 4;have:=qwk (N:=N) (kv:=kv) (cl:=cl) (db:=db) (mb:=mb) (es:=λi=>(es i).1) (ck:=λi=>(es i).2) (s:=s) (t:=t) (m:=λi=>((L i).filter (inB s.data.toList t.data.toList)).length) (rows:=λi=>flat ((L i).filter (inB s.data.toList t.data.toList))) (w:=w) (most:=most)
  ⟨λi hi=>(h.p i hi).choose_spec.d,xV,λi hi=>(jX i hi).1⟩ (λi hi=>(jX i hi).2.1) (λi hi wl hd hm=>by
   refine(UA (w:=wl) (db:=db i) (mb:=mb i) (L:=L i) (by simp[aa,hd]) ((jX i hi).2.2 wl hm) (RZ i hi) (h.len i hi) (λp hp=>by have:=kZ i hi p hp;unfold aO;omega) s t).mono ?_;rintro e w' ⟨v,rfl,hr,_⟩;exact q5j hr) (λi hi=>by
   have h1:=h.len i hi;have h2:((L i).filter (inB s.data.toList t.data.toList)).length<=(L i).length:=aP _ _;show((L i).filter (inB s.data.toList t.data.toList)).length<=_
   omega) Dz hN
 rw[ht]at this;exact this
end
end
section
open Go.Conc Go.ConcN Go.RowKit Go.Maps Go.Conc.Lib Go Sim
def Yz (p:Act->ae->Prop):Exit->Act->ae->Prop
 |.ret,a,w=>p a w
 |_,_,_=>False
section
variable {cl:Nat} {s t:ByteArray} {most:Int} {w:ae} {n:Nat} {N:Blocks} {kv:List ai}
theorem jdl (h0:most<0):ay prog P1 (Yz λa w'=>a.tmps.getD 8 aw=.slice none 0 0/\a.tmps.getD 9 aw=.int .i64 7/\a.defers=[]/\w'=w) ⟨S0 cl s t most n aw aw aw,[]⟩ w:=by
 unfold P1 uG;unfold S0;simp only[Tryz.f27,ah];have hd:decide (most<0)=true:=xdt h0;clear h0;go_wp2;exact⟨rfl,rfl,rfl,rfl⟩
theorem q9n (h0:most<0):oz N kv fS #[.pointer (some ⟨cl,0,none⟩),.string s,.string t,.int .i64 most] w λv w'=>v=.tuple #[.slice none 0 0,.int .i64 7]/\(∀b,b<w.heap.size->w'.heap[b]?=w.heap[b]?)/\w.heap.size<=w'.heap.size/\w'.os=w.os/\w'.output=w.output:=by
 refine yU.calls rfl (λv w1 w2 s h=>by rw[s.heap,s.os,s.output];exact h) λcs=>?_;have he:Frame.enter XG.P fS #[.pointer (some ⟨cl,0,none⟩),.string s,.string t,.int .i64 most] .normal=bS.at ⟨#[.pointer (some ⟨cl,0,none⟩),.string s,.string t,.int .i64 most,aw,aw,aw,aw,aw,aw,aw,aw,aw,aw,aw,aw,aw,aw,aw,aw,aw,aw,aw,aw,aw,aw,aw,aw,aw,aw,aw,aw,aw,aw,aw,aw,aw,aw,aw,aw,aw,aw],[]⟩ [.code uG]:=by
  show Frame.enter prog fS _ .normal=_;rw[enter_at _ func27 (show Tryz.f27.body=some uG from rfl)];have hn:Tryz.f27.ntmps=42:=rfl;rw[hn];simp only[al,aj,ak,Nat.reduceAdd,Nat.reduceSub,Array.replicate_succ,Array.replicate_zero,List.push_toArray,List.append_toArray,List.nil_append,List.cons_append];rfl
 rw[he,UU];refine qf.seq ?_;refine qf.code rfl (Q:=λe a w'=>e=.normal/\a=⟨S0 cl s t most w.heap.size aw aw aw,[]⟩/\HE (H0 cl s t w) w w') Yq (by rintro e a w ⟨rfl,_⟩;trivial) (λe a w wc s h=>⟨h.1,h.2.1,h.2.2.same s⟩) (λwc hs=>?_) ?_
 ·refine YI ⟨rfl,?_,?_⟩
  ·rw[hs.heap]
  ·refine⟨?_,hs.os,hs.output⟩;show((wc.heap.push _).push _).push _=_;rw[hs.heap];rfl
 rintro _ _ w1 fr ⟨rfl,rfl,mZ⟩ rfl;refine qf.seq ?_;refine qf.code rfl (Q:=Yz λa w'=>a.tmps.getD 8 aw=.slice none 0 0/\a.tmps.getD 9 aw=.int .i64 7/\a.defers=[]/\HE (H0 cl s t w) w w') Yp (λe a w h=>by cases e<;>first|trivial|exact h) (λe a w wc s h=>by cases e<;>first|exact h.elim|exact⟨h.1,h.2.1,h.2.2.1,h.2.2.2.same s⟩) (λwc hs=>?_) ?_
 ·refine bK (λe a w h=>?_) (jdl h0);cases e<;>first|exact h|exact⟨h.1,h.2.1,h.2.2.1,by rw[h.2.2.2];exact mZ.same hs⟩
 intro e a w2 fr hq hl;cases e<;>first|exact hq.elim|skip
 obtain⟨h8,h9,hd,qI⟩:=hq;obtain⟨todo,rfl⟩:=hl;refine qf.done λwc hs=>⟨rfl,_,⟨rfl,hd,rfl,_,func27,λw=>?_⟩,λρ _=>.tuple (.cons (.jv 0 0) (.cons (.int .i64 7) .nil)),rfl,?_,?_⟩
 ·have:=UX (w:=w) (T:=a.tmps);rw[h8,h9]at this;exact this
 ·intro b hb;rw[hs.heap,qI.heap];unfold H0;rw[aZ,if_neg (by simp;omega),aZ,if_neg (by simp;omega),aZ,if_neg (by omega)]
 ·refine⟨?_,hs.os.trans qI.os,hs.output.trans qI.output⟩;rw[hs.heap,qI.heap,Kw];omega
end
noncomputable def R24:Array Oper:=match oq with|.seq a _=>rg a|_=>#[]
theorem jjw:tB=.seq tO (.seq tN (.seq tEm (.seq tP (.seq (.seq LX (.block 0 tK2)) (tl1 tM))))):=rfl
theorem jeo:tK2=.seq (hd1 tK2) (.cond (.tmp 85) LY tK3):=rfl
theorem jep:tK3=.seq (hd1 tK3) (.cond (.tmp 103) LD tK4):=rfl
theorem jeq:tK4=.seq (hd1 tK4) (.cond (.tmp 117) LC tK5):=rfl
theorem jer:tK5=.seq (hd1 tK5) (.cond (.tmp 143) oq tK6):=rfl
theorem jes:tK6=.seq (hd1 tK6) (.cond (.tmp 181) tMv tK7):=rfl
theorem jet:tK7=.seq (hd1 tK7) (.cond (.tmp 198) tAb tK8):=rfl
theorem jeu:tK8=.seq (hd1 tK8) (.cond (.tmp 211) tLk .skip):=rfl
theorem q59:oq=.seq (.region 24 R24 false) (tl1 oq):=rfl
theorem UL (x:Nat->ai):(SS x).size=224:=by rw[PK];simp
theorem Nz (x:Nat->ai) (i:Nat) (h:i<(SS x).size):(SS x)[i]=x i:=by
 simp[PK]
theorem jbz (x:Nat->ai) (j:Nat) (v:ai):(SS x).setIfInBounds j v=SS (upd x j v):=by
 apply cn
 ·simp[UL]
 ·intro i h1 h2;have h3:i<(SS x).size:=by simpa using h1
  rw[Array.getElem_setIfInBounds h3,Nz,Nz];unfold upd;by_cases e:j=i
  ·subst e;simp
  ·rw[if_neg e,if_neg (λh=>e h.symm)]
theorem FN (x:Nat->ai) (h:j<224):(SS x).getD j aw=x j:=by
 have h2:j<(SS x).size:=by rw[UL];exact h
 simp[aG,h2,Nz]
section
variable {x:Nat->ai} {w:ae} {ob pb:Nat} {c:Cst} {o:OpV} {v a b:ai}
def OpJ (x:Nat->ai) (w:ae) (j:Nat) (v:ai):Exit->Act->ae->Prop:=λe a w'=>e=.normal/\a=⟨SS (upd x j v),[]⟩/\w'=w
noncomputable def Pp:Oper:=R24.getD 0 ⟨none,.alloc 0,0, "",#[],none⟩
theorem jj8 (h:x 9=.pointer (some ⟨pb,0,none⟩)):(au 0 #[Sim.bare Pp] false).wp prog (OpJ x w 146 (.pointer (some ⟨pb,0,none⟩))) ⟨SS x,[]⟩ w:=by
 obtain⟨x,rfl⟩:=qp h;clear h;unfold Pp R24 oq tK5 tK4 tK3 tK2 tM tB SS;simp only[Tryz.f15,ah,hd1,tl1,c1,c2,blk,rg,Sim.bare,aG,al,aj,ak,upd,ac,if_true,if_false];go_wp2;exact⟨rfl,rfl,rfl⟩
noncomputable def Po:Oper:=R24.getD 1 ⟨none,.alloc 0,0, "",#[],none⟩
theorem jj9 (h:x 146=.pointer (some ⟨pb,0,none⟩)) (hc:w.cell? ⟨pb,0,none⟩=some a):(au 0 #[Sim.bare Po] false).wp prog (OpJ x w 147 (a)) ⟨SS x,[]⟩ w:=by
 obtain⟨x,rfl⟩:=qp h;clear h;unfold Po R24 oq tK5 tK4 tK3 tK2 tM tB SS;simp only[Tryz.f15,ah,hd1,tl1,c1,c2,blk,rg,Sim.bare,aG,al,aj,ak,upd,ac,if_true,if_false];go_wp2;exact⟨rfl,rfl,rfl⟩
noncomputable def Pn:Oper:=R24.getD 2 ⟨none,.alloc 0,0, "",#[],none⟩
theorem jka (h:x 3=.pointer (some ⟨ob,0,none⟩)):(au 0 #[Sim.bare Pn] false).wp prog (OpJ x w 148 (.pointer (some ⟨ob,7,none⟩))) ⟨SS x,[]⟩ w:=by
 obtain⟨x,rfl⟩:=qp h;clear h;unfold Pn R24 oq tK5 tK4 tK3 tK2 tM tB SS;simp only[Tryz.f15,ah,hd1,tl1,c1,c2,blk,rg,Sim.bare,aG,al,aj,ak,upd,ac,if_true,if_false];go_wp2;exact⟨rfl,rfl,rfl⟩
noncomputable def Pm:Oper:=R24.getD 3 ⟨none,.alloc 0,0, "",#[],none⟩
theorem jkb (h:x 148=.pointer (some ⟨ob,7,none⟩)) (hc:w.cell? ⟨ob,7,none⟩=some a):(au 0 #[Sim.bare Pm] false).wp prog (OpJ x w 149 (a)) ⟨SS x,[]⟩ w:=by
 obtain⟨x,rfl⟩:=qp h;clear h;unfold Pm R24 oq tK5 tK4 tK3 tK2 tM tB SS;simp only[Tryz.f15,ah,hd1,tl1,c1,c2,blk,rg,Sim.bare,aG,al,aj,ak,upd,ac,if_true,if_false];go_wp2;exact⟨rfl,rfl,rfl⟩
noncomputable def Pk:Oper:=R24.getD 4 ⟨none,.alloc 0,0, "",#[],none⟩
theorem jkc (h:x 3=.pointer (some ⟨ob,0,none⟩)):(au 0 #[Sim.bare Pk] false).wp prog (OpJ x w 150 (.pointer (some ⟨ob,8,none⟩))) ⟨SS x,[]⟩ w:=by
 obtain⟨x,rfl⟩:=qp h;clear h;unfold Pk R24 oq tK5 tK4 tK3 tK2 tM tB SS;simp only[Tryz.f15,ah,hd1,tl1,c1,c2,blk,rg,Sim.bare,aG,al,aj,ak,upd,ac,if_true,if_false];go_wp2;exact⟨rfl,rfl,rfl⟩
noncomputable def Pj:Oper:=R24.getD 5 ⟨none,.alloc 0,0, "",#[],none⟩
theorem jkd (h:x 150=.pointer (some ⟨ob,8,none⟩)) (hc:w.cell? ⟨ob,8,none⟩=some a):(au 0 #[Sim.bare Pj] false).wp prog (OpJ x w 151 (a)) ⟨SS x,[]⟩ w:=by
 obtain⟨x,rfl⟩:=qp h;clear h;unfold Pj R24 oq tK5 tK4 tK3 tK2 tM tB SS;simp only[Tryz.f15,ah,hd1,tl1,c1,c2,blk,rg,Sim.bare,aG,al,aj,ak,upd,ac,if_true,if_false];go_wp2;exact⟨rfl,rfl,rfl⟩
noncomputable def Pg:Oper:=R24.getD 6 ⟨none,.alloc 0,0, "",#[],none⟩
theorem jke (h:x 3=.pointer (some ⟨ob,0,none⟩)):(au 0 #[Sim.bare Pg] false).wp prog (OpJ x w 152 (.pointer (some ⟨ob,2,none⟩))) ⟨SS x,[]⟩ w:=by
 obtain⟨x,rfl⟩:=qp h;clear h;unfold Pg R24 oq tK5 tK4 tK3 tK2 tM tB SS;simp only[Tryz.f15,ah,hd1,tl1,c1,c2,blk,rg,Sim.bare,aG,al,aj,ak,upd,ac,if_true,if_false];go_wp2;exact⟨rfl,rfl,rfl⟩
noncomputable def Pf:Oper:=R24.getD 7 ⟨none,.alloc 0,0, "",#[],none⟩
theorem jkf (h:x 152=.pointer (some ⟨ob,2,none⟩)) (hc:w.cell? ⟨ob,2,none⟩=some a):(au 0 #[Sim.bare Pf] false).wp prog (OpJ x w 153 (a)) ⟨SS x,[]⟩ w:=by
 obtain⟨x,rfl⟩:=qp h;clear h;unfold Pf R24 oq tK5 tK4 tK3 tK2 tM tB SS;simp only[Tryz.f15,ah,hd1,tl1,c1,c2,blk,rg,Sim.bare,aG,al,aj,ak,upd,ac,if_true,if_false];go_wp2;exact⟨rfl,rfl,rfl⟩
noncomputable def Pb:Oper:=R24.getD 9 ⟨none,.alloc 0,0, "",#[],none⟩
theorem jkg (h:x 154=.tuple #[a,b]):(au 0 #[Sim.bare Pb] false).wp prog (OpJ x w 145 (.tuple #[a,b])) ⟨SS x,[]⟩ w:=by
 obtain⟨x,rfl⟩:=qp h;clear h;unfold Pb R24 oq tK5 tK4 tK3 tK2 tM tB SS;simp only[Tryz.f15,ah,hd1,tl1,c1,c2,blk,rg,Sim.bare,aG,al,aj,ak,upd,ac,if_true,if_false];go_wp2;exact⟨rfl,rfl,rfl⟩
noncomputable def Ni:Oper:=R24.getD 10 ⟨none,.alloc 0,0, "",#[],none⟩
theorem je3 (h:x 145=.tuple #[a,b]):(au 0 #[Sim.bare Ni] false).wp prog (OpJ x w 155 (a)) ⟨SS x,[]⟩ w:=by
 obtain⟨x,rfl⟩:=qp h;clear h;unfold Ni R24 oq tK5 tK4 tK3 tK2 tM tB SS;simp only[Tryz.f15,ah,hd1,tl1,c1,c2,blk,rg,Sim.bare,aG,al,aj,ak,upd,ac,if_true,if_false];go_wp2;exact⟨rfl,rfl,rfl⟩
noncomputable def Nh:Oper:=R24.getD 11 ⟨none,.alloc 0,0, "",#[],none⟩
theorem je4 (h:x 145=.tuple #[a,b]):(au 0 #[Sim.bare Nh] false).wp prog (OpJ x w 156 (b)) ⟨SS x,[]⟩ w:=by
 obtain⟨x,rfl⟩:=qp h;clear h;unfold Nh R24 oq tK5 tK4 tK3 tK2 tM tB SS;simp only[Tryz.f15,ah,hd1,tl1,c1,c2,blk,rg,Sim.bare,aG,al,aj,ak,upd,ac,if_true,if_false];go_wp2;exact⟨rfl,rfl,rfl⟩
noncomputable def Ns:Oper:=R24.getD 12 ⟨none,.alloc 0,0, "",#[],none⟩
theorem je5 (h:x 155=a):(au 0 #[Sim.bare Ns] false).wp prog (OpJ x w 14 (a)) ⟨SS x,[]⟩ w:=by
 obtain⟨x,rfl⟩:=qp h;clear h;unfold Ns R24 oq tK5 tK4 tK3 tK2 tM tB SS;simp only[Tryz.f15,ah,hd1,tl1,c1,c2,blk,rg,Sim.bare,aG,al,aj,ak,upd,ac,if_true,if_false];go_wp2;exact⟨rfl,rfl,rfl⟩
noncomputable def Nr:Oper:=R24.getD 13 ⟨none,.alloc 0,0, "",#[],none⟩
theorem je6 (h:x 156=a):(au 0 #[Sim.bare Nr] false).wp prog (OpJ x w 15 (a)) ⟨SS x,[]⟩ w:=by
 obtain⟨x,rfl⟩:=qp h;clear h;unfold Nr R24 oq tK5 tK4 tK3 tK2 tM tB SS;simp only[Tryz.f15,ah,hd1,tl1,c1,c2,blk,rg,Sim.bare,aG,al,aj,ak,upd,ac,if_true,if_false];go_wp2;exact⟨rfl,rfl,rfl⟩
end
theorem q5f {T:Array ai}:(results Tryz.f15 T).runT prog w #[]=(.ok (T.getD 4 aw) w,#[]):=by
 have e:Tryz.f15.results=#[.tmp 4]:=rfl;simp[results,e,go_sem]
section
variable {N:Blocks} {kv:List ai} {ks eX:List Frame} {Z:Frame->ae->Prop} {K:List Item} {x:Nat->ai} {w0 w w1 w2:ae} {n0 W n ob pb k:Nat} {cs:List Cst} {c:Cst} {o:OpV}
theorem Xd (h:jb n0 w W n cs w1) (s:Same w1 w2):jb n0 w W n cs w2:=by
 obtain⟨n',fJ,h1,h2,h3,h4,h5⟩:=h;exact⟨n',fJ,h1.idle (But.same' s),h2,h3,h4,h5.trans (But.same' s)⟩
theorem qf.uF {c:Code} (fH:codeOk XG.P XG.P fb true c=true) (tZ:But (λb=>n0<=b) w0 w) (hp:∀wc,Same w wc->c.wp prog (sj (jb n0 wc W n cs)) ⟨SS x,[]⟩ wc):
  qf N kv ks (bT.at ⟨SS x,[]⟩ (.code c::K)) w ks (Ret fT λv w'=>v=.bool true/\jb n0 w0 W n cs w'):=by
 refine qf.code rfl (Q:=sj (jb n0 w0 W n cs)) fH (λe a w h=>by cases e<;>first|trivial|exact h) (λe a w1 wc s h=>by cases e<;>first|exact h.elim|exact⟨h.1,h.2.1,Xd h.2.2 s⟩) (λwc hs=>?_) ?_
 ·refine bK (λe a w1 h=>?_) (hp wc hs);cases e<;>first|exact h|exact⟨h.1,h.2.1,h.2.2.pre (tZ.trans (But.same' hs))⟩
 intro e a w2 fr hq hl;cases e<;>first|exact hq.elim|skip
 obtain⟨h4,hd,hP⟩:=hq;obtain⟨todo,rfl⟩:=hl;exact qf.done λwc hs=>⟨rfl,_,⟨rfl,hd,rfl,_,func15,λw=>by
  have:=q5f (w:=w) (T:=a.tmps);rw[h4]at this
  exact this⟩,λρ _=>.bool true,rfl,Xd hP hs⟩
theorem qf.jn {c:Code} (fH:codeOk XG.P XG.P fb true c=true) (hR:∀x w wc,Same w wc->R x w->R x wc) (hp:∀wc,Same w wc->c.wp prog (Jn R) ⟨SS x,[]⟩ wc)
  (nx:∀x' w',R x' w'->qf N kv ks (bT.at ⟨SS x',[]⟩ K) w' eX Z):qf N kv ks (bT.at ⟨SS x,[]⟩ (.code c::K)) w eX Z:=by
 refine qf.code rfl (Q:=Jn R) fH (λe a w h=>by cases e<;>first|trivial|exact h) (λe a w1 wc s h=>by cases e<;>first|exact h.elim|exact⟨h.choose,h.choose_spec.1,hR _ _ _ s h.choose_spec.2⟩) hp ?_;intro e a w2 fr hq hl;cases e<;>first|exact hq.elim|skip
 obtain⟨x',rfl,hr⟩:=hq;cases hl;exact nx x' w2 hr
theorem Jn.mono {R':(Nat->ai)->ae->Prop} (h:∀x w,R x w->R' x w) {e:Exit} {a:Act} {w:ae} (q:Jn R e a w):Jn R' e a w:=by
 cases e<;>first|exact q|exact⟨q.choose,q.choose_spec.1,h _ _ q.choose_spec.2⟩
theorem qf.opj {i:Nat} {td:List Nat} {o:Oper} {v:ai} (ho:R24[i]?=some o) (hg:o.guard=none) (fH:kE XG.P XG.P fb true (Sim.bare o)=true) (hp:∀wc,Same w wc->(au 0 #[Sim.bare o] false).wp prog (OpJ x wc j v) ⟨SS x,[]⟩ wc)
  (nx:∀w',Same w w'->qf N kv ks (bT.at ⟨SS (upd x j v),[]⟩ (.inRegion R24 td::K)) w' eX Z):qf N kv ks (bT.at ⟨SS x,[]⟩ (.inRegion R24 (i::td)::K)) w eX Z:=by
 refine qf.op rfl (Q:=λa w'=>a=⟨SS (upd x j v),[]⟩/\Same w w') 0 ho fH (by unfold Region.wanted;rw[hg]) (λa w1 wc s h=>⟨h.1,h.2.trans s⟩) (λwc hs=>bK (λe a w1 h=>⟨h.1,h.2.1,?_⟩) (hp wc hs)) ?_
 ·rw[h.2.2];exact hs
 rintro _ w' ⟨rfl,hs⟩;exact nx w' hs
theorem q7l {L:Nat->KV} {f:Bs×Bs->Bool} (h:∀i,i<4->(L i).length<=12):(cat L f 4).length<=48:=by
 have key:∀i,i<4->((L i).filter f).length<=12:=λi hi=>xlt (aP _ _) (h i hi);have h0:=key 0 (by decide);have h1:=key 1 (by decide);have h2:=key 2 (by decide);have h3:=key 3 (by decide);simp only[cat,aE,ak];omega
theorem q5q (h:SwW n0 w W n cs ob pb k o c) (hb: -9223372036854775808<=o.b/\o.b<=9223372036854775807) (hN:∀b,N b->b<w.heap.size):
  oz N kv fS #[.pointer (some ⟨c.A.cl,0,none⟩),.string o.s,.string o.t,.int .i64 o.b] w λv w'=>
   ∃ov er l,v=.tuple #[ov,.int .i64 er]/\w'.ownsRow w.heap.size 74 2 ov l.length (flat l)/\l.length<=48/\But (λ_=>False) w w'/\∀w1,SwW n0 w1 W n cs ob pb k o c->NS w1 c o l er:=by
 rcases bg o.b 0 with JL|jN
 ·refine(q9n JL).mono ?_;rintro v w' ⟨rfl,h1,h2,h3,h4⟩;refine⟨_,_,[],rfl,aQ _ _ _ _,by simp,⟨h2,λb hb _=>h1 b hb,h3,h4⟩,λw1 mZ=>?_⟩;refine(q5k o.s o.t o.b JL).mono ?_;rintro e w2 ⟨rfl,rfl⟩;exact⟨_,0,rfl,aQ _ _ _ _,jg _ _⟩
 ·obtain⟨m,hm⟩:∃m:Nat,o.b=m:=⟨o.b.toNat,by omega⟩
  rw[hm];have zQ:m<=9223372036854775807:=by omega
  refine(q5r (h.cst.p.clu h.ok.len) (λi hi=>(h.cst.p.db i hi).2) h.ok.ris h.ok.key zQ hN).mono ?_;rintro v w' ⟨ov,rfl,h1,h2,h3,h4,h5⟩;refine⟨ov,_,_,rfl,h1,xlt (by rw[aN];exact Nat.min_le_right _ _) (q7l h.ok.len),⟨h3,λb hb _=>h2 b hb,h4,h5⟩,λw1 mZ=>?_⟩;unfold NS;rw[hm];refine(qz9 mZ.cst.m.mdl mZ.okt.len o.s o.t zQ).mono ?_;rintro e w2 ⟨v',rfl,hr,eZ⟩;refine⟨v',w1.heap.size,rfl,?_,eZ⟩;rw[<-mZ.e]at hr;exact hr.1
theorem jcl {pc pm:ai} {a b:ai} (h1:x 147=pc) (h2:x 149=a) (h3:x 151=b) (h4:x 153=pm):∀w,(bX (Act.mk (SS x) []).eval (R24.getD 8 ⟨none,.alloc 0,0, "",#[],none⟩)).run XG.P w=.ok (.enter fS #[pc,a,b,pm]) w/\(bX (Act.mk (SS x) []).eval (R24.getD 8 ⟨none,.alloc 0,0, "",#[],none⟩)).events XG.P w #[]=#[]:=by
 intro w;have b1:(Act.mk (SS x) []).eval (.tmp 147)=pc:=(FN x (by decide)).trans h1;have b2:(Act.mk (SS x) []).eval (.tmp 149)=a:=(FN x (by decide)).trans h2;have b3:(Act.mk (SS x) []).eval (.tmp 151)=b:=(FN x (by decide)).trans h3;have b4:(Act.mk (SS x) []).eval (.tmp 153)=pm:=(FN x (by decide)).trans h4;have b5:(Act.mk (SS x) []).eval (.func fS)=.func (.func fS) #[] #[]:=rfl;obtain⟨ty,eU⟩:∃ty,(R24.getD 8 ⟨none,.alloc 0,0, "",#[],none⟩).op=.call {callee:=.value (.func fS),args:=#[.tmp 147,.tmp 149,.tmp 151,.tmp 153],argTypes:=ty}:=⟨_,rfl⟩
 show(bX _ _).run prog w=_/\(bX _ _).events prog w #[]=_;have hf:=func27;generalize (R24.getD 8 ⟨none,.alloc 0,0, "",#[],none⟩)=o at*;generalize (Act.mk (SS x) []).eval=e at*;have hx:bX e o=callFunc fS #[pc,a,b,pm]:=by unfold bX;simp[go_sem,eU,resolve,invoke,b1,b2,b3,b4,b5]
 rw[hx];constructor
 ·simp[callFunc,go_sem,hf,Tryz.f27]
 ·simp[callFunc,go_sem,hf,Tryz.f27]
end
def lkO (s:St) (j i:Nat):Int:=if i<j then s.ow i else 0
def lkM (s:St) (j i:Nat):Bool:=if i<j then(s.mv i).isSome else false
def lkS (s:St) (j i:Nat):Bool:=if i<j then sN (s.mv i)else false
def qU (s:St) (j:Nat):Array ai:=#[.int .i64 s.ep,.int .i64 (lkO s j 0),.int .i64 (lkO s j 1),.int .i64 (lkO s j 2),.int .i64 (lkO s j 3),.bool (lkM s j 0),.bool (lkM s j 1),.bool (lkM s j 2),.bool (lkM s j 3),.bool (lkS s j 0),.bool (lkS s j 1),.bool (lkS s j 2),.bool (lkS s j 3)]
section
variable {w w':ae} {F:Nat->Prop} {A:PA} {s:St}
theorem qvr (s:St):∀j,j<4->(((qU s j).setIfInBounds (1+j) (.int .i64 (s.ow j))).setIfInBounds (5+j) (.bool (s.mv j).isSome)).setIfInBounds (9+j) (.bool (sN (s.mv j)))=qU s (j+1)
 |0,_=>rfl
 |1,_=>rfl
 |2,_=>rfl
 |3,_=>rfl
 |j+4,h=>absurd h (by omega)
theorem qzg (a0 a1 a2 a3 a4 a5 a6 a7 a8 a9 mJ kY:ai) (W:ae):(aS 81 (.agg #[a0,a1,a2,a3,a4,a5,a6,a7,a8,a9,mJ,kY]) (.int .i64 0)).run prog W=.ok (.agg #[a0,a1,a2]) W:=by
 have hu:=underlying81;have hS:=Tryz.sizeOf80;have hA:=Tryz.isAgg80;simp[aS,part,go_sem,hu,hS,hA]
theorem qzh (a0 a1 a2 a3 a4 a5 a6 a7 a8 a9 mJ kY:ai) (W:ae):(aS 81 (.agg #[a0,a1,a2,a3,a4,a5,a6,a7,a8,a9,mJ,kY]) (.int .i64 1)).run prog W=.ok (.agg #[a3,a4,a5]) W:=by
 have hu:=underlying81;have hS:=Tryz.sizeOf80;have hA:=Tryz.isAgg80;simp[aS,part,go_sem,hu,hS,hA]
theorem qzi (a0 a1 a2 a3 a4 a5 a6 a7 a8 a9 mJ kY:ai) (W:ae):(aS 81 (.agg #[a0,a1,a2,a3,a4,a5,a6,a7,a8,a9,mJ,kY]) (.int .i64 2)).run prog W=.ok (.agg #[a6,a7,a8]) W:=by
 have hu:=underlying81;have hS:=Tryz.sizeOf80;have hA:=Tryz.isAgg80;simp[aS,part,go_sem,hu,hS,hA]
theorem qzj (a0 a1 a2 a3 a4 a5 a6 a7 a8 a9 mJ kY:ai) (W:ae):(aS 81 (.agg #[a0,a1,a2,a3,a4,a5,a6,a7,a8,a9,mJ,kY]) (.int .i64 3)).run prog W=.ok (.agg #[a9,mJ,kY]) W:=by
 have hu:=underlying81;have hS:=Tryz.sizeOf80;have hA:=Tryz.isAgg80;simp[aS,part,go_sem,hu,hS,hA]
structure LkW (w0:ae) (s:St) (rb lb j:Nat) (w:ae):Prop where
 b:w.heap[lb]?=some (.cells (qU s j) 70 (0,0))
 r:w.heap[rb]?=some (.cells #[.int .i64 0,.int .i64 0,.int .i64 0,.int .i64 0,.int .i64 0,.bool false,.bool false,.bool false,.bool false,.bool false,.bool false,.bool false,.bool false] 70 (0,0))
 lo:w0.heap.size<=rb
 ne:rb<lb
 below:aF w0.heap.size w0 w
theorem LkW.lt (h:LkW w s rb lb j w'):lb<w'.heap.size:=(zi h.b).1
theorem LkW.cell (h:LkW w s rb lb j w') (k:Nat) (v:ai) (hv:(qU s j)[k]?=some v):w'.cell? ⟨lb,k,none⟩=some v/\w'.frozen? ⟨lb,k,none⟩=false:=⟨by simp[aa,h.b,hv],by simp[ax,h.b]⟩
theorem LkW.next (h:LkW w s rb lb j w') (hj:j<4) (o:Obj):LkW w s rb lb (j+1) ((((w'.setCell ⟨lb,1+j,none⟩ (.int .i64 (s.ow j))).setCell ⟨lb,5+j,none⟩ (.bool (s.mv j).isSome)).setCell ⟨lb,9+j,none⟩ (.bool (sN (s.mv j)))).alloc o):=by
 have s1:=xhs w' lb (1+j) _ _ (.int .i64 (s.ow j)) h.b;have s2:=xhs _ lb (5+j) _ _ (.bool (s.mv j).isSome) s1;have s3:=xhs _ lb (9+j) _ _ (.bool (sN (s.mv j))) s2;have iT:=h.lo;have fA:=h.ne;have eH:=h.lt;have gB:=((h.below.setCell (by show w.heap.size<=lb;omega) (.int .i64 (s.ow j)) (p:=⟨lb,1+j,none⟩)).setCell (by show w.heap.size<=lb;omega) (.bool (s.mv j).isSome) (p:=⟨lb,5+j,none⟩)).setCell (by show w.heap.size<=lb;omega) (.bool (sN (s.mv j))) (p:=⟨lb,9+j,none⟩);refine⟨?_,?_,h.lo,h.ne,gB.alloc gB.size o⟩
 ·rw[aD _ o (by simpa using eH),s3,qvr s j hj]
 ·have hn:rb≠lb:=by omega
  rw[aD _ o (by simp;omega),xho _ _ _ _ hn,xho _ _ _ _ hn,xho _ _ _ _ hn];exact h.r
theorem q87 (h:yc w F A s):az prog 35 #[.pointer (some ⟨A.cl,0,none⟩)] w λe w'=>e=.returned (.agg (qU s 4))/\aF w.heap.size w w':=by
 have H:=Hd h;have cl:=λj v hj=>(h.cells j v hj).1;have d0:w.cell? ⟨A.cl,1,none⟩=some (.int .i64 (s.ow 0)):=cl 1 _ rfl;have d1:w.cell? ⟨A.cl,2,none⟩=some (.pointer (some ⟨A.db 0,0,none⟩)):=cl 2 _ rfl;have d2:w.cell? ⟨A.cl,3,none⟩=some (.pointer (mpA (A.mp 0))):=by rw[<-GN];exact cl 3 _ rfl
 have d3:w.cell? ⟨A.cl,4,none⟩=some (.int .i64 (s.ow 1)):=cl 4 _ rfl;have d4:w.cell? ⟨A.cl,5,none⟩=some (.pointer (some ⟨A.db 1,0,none⟩)):=cl 5 _ rfl;have d5:w.cell? ⟨A.cl,6,none⟩=some (.pointer (mpA (A.mp 1))):=by rw[<-GN];exact cl 6 _ rfl
 have d6:w.cell? ⟨A.cl,7,none⟩=some (.int .i64 (s.ow 2)):=cl 7 _ rfl;have d7:w.cell? ⟨A.cl,8,none⟩=some (.pointer (some ⟨A.db 2,0,none⟩)):=cl 8 _ rfl;have d8:w.cell? ⟨A.cl,9,none⟩=some (.pointer (mpA (A.mp 2))):=by rw[<-GN];exact cl 9 _ rfl
 have d9:w.cell? ⟨A.cl,10,none⟩=some (.int .i64 (s.ow 3)):=cl 10 _ rfl;have d10:w.cell? ⟨A.cl,11,none⟩=some (.pointer (some ⟨A.db 3,0,none⟩)):=cl 11 _ rfl;have Ms:w.cell? ⟨A.cl,12,none⟩=some (.pointer (mpA (A.mp 3))):=by rw[<-GN];exact cl 12 _ rfl
 have d15:w.cell? ⟨A.cl,15,none⟩=some (.int .i64 s.ep):=cl 15 _ rfl;have eH:=h.clt;clear h cl;go_enter func35,ntmps35;go_wp2;go_loopw [15] (λx wr=>∃j:Nat,j<=4/\x=.int .i64 j/\Hid (LkW w s w.heap.size (w.heap.size+1) j wr)) (λx _=>4-(intOf x).toNat);case atStart=>
  refine⟨0,by omega,rfl,Hd ⟨?_,?_,ji _,by omega,((jg _ _).alloc (ji _) _).alloc (by simp) _⟩⟩
  ·exact heap_alloc_new' _ _ (by simp)
  ·rw[aD _ _ (by simp)];exact heap_alloc_new' _ _ rfl
 case round=>
  obtain⟨j,hj,rfl,HL⟩:=hrel;have ME:=HL.lt;rcases(show j=0\/j=1\/j=2\/j=3\/j=4 by omega)with rfl|rfl|rfl|rfl|rfl
  ·have hm:=H.mv 0 (by decide);obtain⟨q1,f1⟩:=HL.cell 1 _ rfl;obtain⟨q2,f2⟩:=HL.cell 5 _ rfl;obtain⟨q3,f3⟩:=HL.cell 9 _ rfl;have HX:=Hd (HL.next (by decide));have wS:=qzg;cases fq:s.mv 0 with
   |none=>
    rw[fq]at hm;rw[fq]at HX;rw[show mpA (A.mp 0)=none by rw[hm.1];rfl];clear hm fq;go_wp2;go_roundw;case rel=>exact⟨1,by omega,rfl,Hd (HX.o _)⟩
    case measure=>simp[intOf]
   |some m=>
    rw[fq]at hm;rw[fq]at HX;obtain⟨x,z1,z2,z3,_⟩:=hm;rw[show mpA (A.mp 0)=some ⟨x,0,none⟩ by rw[z1];rfl];have zl:x<w.heap.size:=(zi z3).1;have zs:wr.cell? ⟨x,12,none⟩=some (.bool m.sealed):=(HL.below.cell (p:=⟨x,12,none⟩) zl).trans (by simp[aa,z3,zw]);have zn:x<wr.heap.size:=xll zl HL.below.size;have JX:x≠w.heap.size+1:=by omega
    have HY:Hid (sN (some m)=m.sealed):=Hd rfl;clear z1 z2 z3 fq;go_wp2;go_roundw;case rel=>exact⟨1,by omega,rfl,Hd (HX.o _)⟩
    case measure=>simp[intOf]
  ·have hm:=H.mv 1 (by decide);obtain⟨q1,f1⟩:=HL.cell 2 _ rfl;obtain⟨q2,f2⟩:=HL.cell 6 _ rfl;obtain⟨q3,f3⟩:=HL.cell 10 _ rfl;have HX:=Hd (HL.next (by decide));have wS:=qzh;cases fq:s.mv 1 with
   |none=>
    rw[fq]at hm;rw[fq]at HX;rw[show mpA (A.mp 1)=none by rw[hm.1];rfl];clear hm fq;go_wp2;go_roundw;case rel=>exact⟨2,by omega,rfl,Hd (HX.o _)⟩
    case measure=>simp[intOf]
   |some m=>
    rw[fq]at hm;rw[fq]at HX;obtain⟨x,z1,z2,z3,_⟩:=hm;rw[show mpA (A.mp 1)=some ⟨x,0,none⟩ by rw[z1];rfl];have zl:x<w.heap.size:=(zi z3).1;have zs:wr.cell? ⟨x,12,none⟩=some (.bool m.sealed):=(HL.below.cell (p:=⟨x,12,none⟩) zl).trans (by simp[aa,z3,zw]);have zn:x<wr.heap.size:=xll zl HL.below.size;have JX:x≠w.heap.size+1:=by omega
    have HY:Hid (sN (some m)=m.sealed):=Hd rfl;clear z1 z2 z3 fq;go_wp2;go_roundw;case rel=>exact⟨2,by omega,rfl,Hd (HX.o _)⟩
    case measure=>simp[intOf]
  ·have hm:=H.mv 2 (by decide);obtain⟨q1,f1⟩:=HL.cell 3 _ rfl;obtain⟨q2,f2⟩:=HL.cell 7 _ rfl;obtain⟨q3,f3⟩:=HL.cell 11 _ rfl;have HX:=Hd (HL.next (by decide));have wS:=qzi;cases fq:s.mv 2 with
   |none=>
    rw[fq]at hm;rw[fq]at HX;rw[show mpA (A.mp 2)=none by rw[hm.1];rfl];clear hm fq;go_wp2;go_roundw;case rel=>exact⟨3,by omega,rfl,Hd (HX.o _)⟩
    case measure=>simp[intOf]
   |some m=>
    rw[fq]at hm;rw[fq]at HX;obtain⟨x,z1,z2,z3,_⟩:=hm;rw[show mpA (A.mp 2)=some ⟨x,0,none⟩ by rw[z1];rfl];have zl:x<w.heap.size:=(zi z3).1;have zs:wr.cell? ⟨x,12,none⟩=some (.bool m.sealed):=(HL.below.cell (p:=⟨x,12,none⟩) zl).trans (by simp[aa,z3,zw]);have zn:x<wr.heap.size:=xll zl HL.below.size;have JX:x≠w.heap.size+1:=by omega
    have HY:Hid (sN (some m)=m.sealed):=Hd rfl;clear z1 z2 z3 fq;go_wp2;go_roundw;case rel=>exact⟨3,by omega,rfl,Hd (HX.o _)⟩
    case measure=>simp[intOf]
  ·have hm:=H.mv 3 (by decide);obtain⟨q1,f1⟩:=HL.cell 4 _ rfl;obtain⟨q2,f2⟩:=HL.cell 8 _ rfl;obtain⟨q3,f3⟩:=HL.cell 12 _ rfl;have HX:=Hd (HL.next (by decide));have wS:=qzj;cases fq:s.mv 3 with
   |none=>
    rw[fq]at hm;rw[fq]at HX;rw[show mpA (A.mp 3)=none by rw[hm.1];rfl];clear hm fq;go_wp2;go_roundw;case rel=>exact⟨4,by omega,rfl,Hd (HX.o _)⟩
    case measure=>simp[intOf]
   |some m=>
    rw[fq]at hm;rw[fq]at HX;obtain⟨x,z1,z2,z3,_⟩:=hm;rw[show mpA (A.mp 3)=some ⟨x,0,none⟩ by rw[z1];rfl];have zl:x<w.heap.size:=(zi z3).1;have zs:wr.cell? ⟨x,12,none⟩=some (.bool m.sealed):=(HL.below.cell (p:=⟨x,12,none⟩) zl).trans (by simp[aa,z3,zw]);have zn:x<wr.heap.size:=xll zl HL.below.size;have JX:x≠w.heap.size+1:=by omega
    have HY:Hid (sN (some m)=m.sealed):=Hd rfl;clear z1 z2 z3 fq;go_wp2;go_roundw;case rel=>exact⟨4,by omega,rfl,Hd (HX.o _)⟩
    case measure=>simp[intOf]
  ·have k0:wr.cell? ⟨w.heap.size+1,0,none⟩=some (.int .i64 s.ep):=(HL.cell 0 _ rfl).1;have k1:wr.cell? ⟨w.heap.size+1,1,none⟩=some (.int .i64 (lkO s 4 0)):=(HL.cell 1 _ rfl).1;have k2:wr.cell? ⟨w.heap.size+1,2,none⟩=some (.int .i64 (lkO s 4 1)):=(HL.cell 2 _ rfl).1;have k3:wr.cell? ⟨w.heap.size+1,3,none⟩=some (.int .i64 (lkO s 4 2)):=(HL.cell 3 _ rfl).1;have k4:wr.cell? ⟨w.heap.size+1,4,none⟩=some (.int .i64 (lkO s 4 3)):=(HL.cell 4 _ rfl).1;have k5:wr.cell? ⟨w.heap.size+1,5,none⟩=some (.bool (lkM s 4 0)):=(HL.cell 5 _ rfl).1;have k6:wr.cell? ⟨w.heap.size+1,6,none⟩=some (.bool (lkM s 4 1)):=(HL.cell 6 _ rfl).1;have k7:wr.cell? ⟨w.heap.size+1,7,none⟩=some (.bool (lkM s 4 2)):=(HL.cell 7 _ rfl).1;have k8:wr.cell? ⟨w.heap.size+1,8,none⟩=some (.bool (lkM s 4 3)):=(HL.cell 8 _ rfl).1;have k9:wr.cell? ⟨w.heap.size+1,9,none⟩=some (.bool (lkS s 4 0)):=(HL.cell 9 _ rfl).1;have nE:wr.cell? ⟨w.heap.size+1,10,none⟩=some (.bool (lkS s 4 1)):=(HL.cell 10 _ rfl).1;have A9:wr.cell? ⟨w.heap.size+1,11,none⟩=some (.bool (lkS s 4 2)):=(HL.cell 11 _ rfl).1;have wN:wr.cell? ⟨w.heap.size+1,12,none⟩=some (.bool (lkS s 4 3)):=(HL.cell 12 _ rfl).1;have r0:wr.cell? ⟨w.heap.size,0,none⟩=some (.int .i64 0):=by simp[aa,HL.r]
   have r1:wr.cell? ⟨w.heap.size,1,none⟩=some (.int .i64 0):=by simp[aa,HL.r]
   have r2:wr.cell? ⟨w.heap.size,2,none⟩=some (.int .i64 0):=by simp[aa,HL.r]
   have r3:wr.cell? ⟨w.heap.size,3,none⟩=some (.int .i64 0):=by simp[aa,HL.r]
   have r4:wr.cell? ⟨w.heap.size,4,none⟩=some (.int .i64 0):=by simp[aa,HL.r]
   have r5:wr.cell? ⟨w.heap.size,5,none⟩=some (.bool false):=by simp[aa,HL.r]
   have r6:wr.cell? ⟨w.heap.size,6,none⟩=some (.bool false):=by simp[aa,HL.r]
   have r7:wr.cell? ⟨w.heap.size,7,none⟩=some (.bool false):=by simp[aa,HL.r]
   have r8:wr.cell? ⟨w.heap.size,8,none⟩=some (.bool false):=by simp[aa,HL.r]
   have r9:wr.cell? ⟨w.heap.size,9,none⟩=some (.bool false):=by simp[aa,HL.r]
   have Nc:wr.cell? ⟨w.heap.size,10,none⟩=some (.bool false):=by simp[aa,HL.r]
   have Nb:wr.cell? ⟨w.heap.size,11,none⟩=some (.bool false):=by simp[aa,HL.r]
   have Na:wr.cell? ⟨w.heap.size,12,none⟩=some (.bool false):=by simp[aa,HL.r]
   have fr:∀q,wr.frozen? ⟨w.heap.size,q,none⟩=false:=λq=>by simp[ax,HL.r]
   have uD:w.heap.size<wr.heap.size:=by have:=HL.lt;omega
   go_wp2;refine bh (v:=.agg (qU s 4)) (by simp[results,Tryz.results35,go_sem,qU,fr,uD,r0,r1,r2,r3,r4,r5,r6,r7,r8,r9,Nc,Nb,Na]) rfl ⟨rfl,?_⟩
   iterate 13 refine Below.setCell ?_ (by exact ji _) _
   exact HL.below
end
section
variable {w w':ae} {G:Nat->Prop} {B:MA} {s:St} {rb lb j:Nat}
theorem qvq (s:St):∀j,j<4->(qU s j)[1+j]?=some (.int .i64 (lkO s j j))/\(qU s j)[5+j]?=some (.bool (lkM s j j))/\(qU s j)[9+j]?=some (.bool (lkS s j j))
 |0,_=>⟨rfl,rfl,rfl⟩
 |1,_=>⟨rfl,rfl,rfl⟩
 |2,_=>⟨rfl,rfl,rfl⟩
 |3,_=>⟨rfl,rfl,rfl⟩
 |j+4,h=>absurd h (by omega)
theorem q7w (h:yx w G B s):az prog 36 #[.pointer (some ⟨B.ml,0,none⟩)] w λe w'=>e=.returned (.agg (qU s 4))/\aF w.heap.size w w':=by
 have H:=Hd h;have c1:w.cell? ⟨B.ml,1,none⟩=some (.slice (some ⟨B.sb,0,none⟩) 4 B.cap):=(h.cells 1 _ rfl).1;have c4:w.cell? ⟨B.ml,4,none⟩=some (.int .i64 s.ep):=(h.cells 4 _ rfl).1;have eH:B.ml<w.heap.size:=h.lts.ml.1.2;have yA:=Hd h.LA;clear h;go_enter func36,ntmps36;go_wp2;go_loopw [16] (λx wr=>∃j:Nat,j<=4/\x=.int .i64 j/\Hid (LkW w s w.heap.size (w.heap.size+1) j wr)) (λx _=>4-(intOf x).toNat);case atStart=>
  refine⟨0,by omega,rfl,Hd ⟨?_,?_,ji _,by omega,((jg _ _).alloc (ji _) _).alloc (by simp) _⟩⟩
  ·exact heap_alloc_new' _ _ (by simp)
  ·rw[aD _ _ (by simp)];exact heap_alloc_new' _ _ rfl
 case round=>
  obtain⟨j,hj,rfl,HL⟩:=hrel;have ME:=HL.lt;by_cases qK:j<4
  ·have hm:=H.mv j qK;have M1:=H.below HL.below;obtain⟨p0,p1,p2,_⟩:=M1.sbc qK;obtain⟨sl,cp,hv⟩:=D5 (M1.r j qK).1;rw[hv]at p1;have Mh:((j:Int)<4):=by omega
   obtain⟨l1,l2,l3⟩:=qvq s j qK;obtain⟨q1,f1⟩:=HL.cell (1+j) _ l1;obtain⟨q2,f2⟩:=HL.cell (5+j) _ l2;obtain⟨q3,f3⟩:=HL.cell (9+j) _ l3;have HX:=Hd (λo=>HL.next qK o);have zlb:B.sb<wr.heap.size:=xll yA.o HL.below.size;clear l1 l2 l3 M1 hv;cases fq:s.mv j with
   |none=>
    rw[fq]at hm;rw[fq]at HX;rw[hm.1]at p2;replace p2:wr.cell? ⟨B.sb,j*3+2,none⟩=some (.pointer none):=p2;clear hm fq;go_wp2;go_roundw;case rel=>exact⟨j+1,by omega,rfl,Hd (HX.o _)⟩
    case measure=>simp[intOf];omega
   |some m=>
    rw[fq]at hm;rw[fq]at HX;obtain⟨x,z1,z2,z3,_⟩:=hm;rw[z1]at p2;replace p2:wr.cell? ⟨B.sb,j*3+2,none⟩=some (.pointer (some ⟨x,0,none⟩)):=p2;have zl:x<w.heap.size:=(zi z3).1;have zs:wr.cell? ⟨x,9,none⟩=some (.bool m.sealed):=(HL.below.cell (p:=⟨x,9,none⟩) zl).trans (by simp[aa,z3,vv]);have zn:x<wr.heap.size:=xll zl HL.below.size;have JX:x≠w.heap.size+1:=by omega
    clear z1 z2 z3 fq;go_wp2;go_roundw;case rel=>exact⟨j+1,by omega,rfl,Hd (HX.o _)⟩
    case measure=>simp[intOf];omega
  ·obtain rfl:j=4:=by omega
   have k0:wr.cell? ⟨w.heap.size+1,0,none⟩=some (.int .i64 s.ep):=(HL.cell 0 _ rfl).1;have k1:wr.cell? ⟨w.heap.size+1,1,none⟩=some (.int .i64 (lkO s 4 0)):=(HL.cell 1 _ rfl).1;have k2:wr.cell? ⟨w.heap.size+1,2,none⟩=some (.int .i64 (lkO s 4 1)):=(HL.cell 2 _ rfl).1;have k3:wr.cell? ⟨w.heap.size+1,3,none⟩=some (.int .i64 (lkO s 4 2)):=(HL.cell 3 _ rfl).1;have k4:wr.cell? ⟨w.heap.size+1,4,none⟩=some (.int .i64 (lkO s 4 3)):=(HL.cell 4 _ rfl).1;have k5:wr.cell? ⟨w.heap.size+1,5,none⟩=some (.bool (lkM s 4 0)):=(HL.cell 5 _ rfl).1;have k6:wr.cell? ⟨w.heap.size+1,6,none⟩=some (.bool (lkM s 4 1)):=(HL.cell 6 _ rfl).1;have k7:wr.cell? ⟨w.heap.size+1,7,none⟩=some (.bool (lkM s 4 2)):=(HL.cell 7 _ rfl).1;have k8:wr.cell? ⟨w.heap.size+1,8,none⟩=some (.bool (lkM s 4 3)):=(HL.cell 8 _ rfl).1;have k9:wr.cell? ⟨w.heap.size+1,9,none⟩=some (.bool (lkS s 4 0)):=(HL.cell 9 _ rfl).1;have nE:wr.cell? ⟨w.heap.size+1,10,none⟩=some (.bool (lkS s 4 1)):=(HL.cell 10 _ rfl).1;have A9:wr.cell? ⟨w.heap.size+1,11,none⟩=some (.bool (lkS s 4 2)):=(HL.cell 11 _ rfl).1;have wN:wr.cell? ⟨w.heap.size+1,12,none⟩=some (.bool (lkS s 4 3)):=(HL.cell 12 _ rfl).1;have r0:wr.cell? ⟨w.heap.size,0,none⟩=some (.int .i64 0):=by simp[aa,HL.r]
   have r1:wr.cell? ⟨w.heap.size,1,none⟩=some (.int .i64 0):=by simp[aa,HL.r]
   have r2:wr.cell? ⟨w.heap.size,2,none⟩=some (.int .i64 0):=by simp[aa,HL.r]
   have r3:wr.cell? ⟨w.heap.size,3,none⟩=some (.int .i64 0):=by simp[aa,HL.r]
   have r4:wr.cell? ⟨w.heap.size,4,none⟩=some (.int .i64 0):=by simp[aa,HL.r]
   have r5:wr.cell? ⟨w.heap.size,5,none⟩=some (.bool false):=by simp[aa,HL.r]
   have r6:wr.cell? ⟨w.heap.size,6,none⟩=some (.bool false):=by simp[aa,HL.r]
   have r7:wr.cell? ⟨w.heap.size,7,none⟩=some (.bool false):=by simp[aa,HL.r]
   have r8:wr.cell? ⟨w.heap.size,8,none⟩=some (.bool false):=by simp[aa,HL.r]
   have r9:wr.cell? ⟨w.heap.size,9,none⟩=some (.bool false):=by simp[aa,HL.r]
   have Nc:wr.cell? ⟨w.heap.size,10,none⟩=some (.bool false):=by simp[aa,HL.r]
   have Nb:wr.cell? ⟨w.heap.size,11,none⟩=some (.bool false):=by simp[aa,HL.r]
   have Na:wr.cell? ⟨w.heap.size,12,none⟩=some (.bool false):=by simp[aa,HL.r]
   have fr:∀q,wr.frozen? ⟨w.heap.size,q,none⟩=false:=λq=>by simp[ax,HL.r]
   have uD:w.heap.size<wr.heap.size:=by have:=HL.lt;omega
   go_wp2;refine bh (v:=.agg (qU s 4)) (by simp[results,Tryz.results36,go_sem,qU,fr,uD,r0,r1,r2,r3,r4,r5,r6,r7,r8,r9,Nc,Nb,Na]) rfl ⟨rfl,?_⟩
   iterate 13 refine Below.setCell ?_ (by exact ji _) _
   exact HL.below
end
end
end Ph
open Go.RowKit Go.Maps
section
variable {x:Nat->ai} {w w1:ae} {Q:Exit->Act->ae->Prop} {o:OpV} {W ob pb k n0 n:Nat} {cs:List Cst} {c c':Cst}
theorem q8l {s:St} (h:Ok2 n s):∀i,i<4->∀p∈s.kv i,p.1.length<=aO:=λi hi p hp=>by
 have:=h.key i hi p hp;unfold aO;omega
theorem q8v (h:SwW n0 w W n cs ob pb k o c) (hb:aF w.heap.size w w1) (ho:(-9223372036854775808<=o.b/\o.b<=9223372036854775807)/\(-9223372036854775808<=o.c/\o.c<=9223372036854775807)) (hn:n<=1073741820):
  az prog 31 #[.pointer (some ⟨c.A.cl,0,none⟩),.int .i64 o.b,.int .i64 o.c] w1 λe w'=>e=.returned (.int .i64 (mvE c.s o.b o.c))/\∃c',qF n0 w w' W n cs ob pb k o c c' (mvS c.s o.b o.c):=
 DL h hb λhp=>Ph.q88 hp h.ok.ris h.ok.len (q8l h.ok) (by have:=h.ok.id;omega) o.b o.c ho.1 ho.2
theorem q2m (h0:SwW n0 w0 W n cs ob pb k o c) (h:qF n0 w0 w W n cs ob pb k o c c' (mvS c.s o.b o.c)) (hb:aF w.heap.size w w1) (ho:(-9223372036854775808<=o.b/\o.b<=9223372036854775807)/\(-9223372036854775808<=o.c/\o.c<=9223372036854775807)) (hn:n<=1073741820):
  az prog 32 #[.pointer (some ⟨c.B.ml,0,none⟩),.int .i64 o.b,.int .i64 o.c] w1 λe w'=>e=.returned (.int .i64 (mvE c.s o.b o.c))/\jb n0 w0 W n cs w'/\SwC w' ob pb o c:=by
 refine Ki h hb h0.ck h0.st.ev (λhm=>?_) (jdd h0.ok o.b o.c);rw[h0.e];exact Ph.q7x hm h0.okt.len (by have:=h0.okt.id;omega) o.b o.c ho.1 ho.2
theorem q1s (h:SwW n0 w W n cs ob pb k o c) (hb:aF w.heap.size w w1) (ho: -9223372036854775808<=o.b/\o.b<=9223372036854775807):
  az prog 33 #[.pointer (some ⟨c.A.cl,0,none⟩),.int .i64 o.b] w1 λe w'=>e=.returned (.int .i64 (Ph.abE c.s o.b))/\∃c',qF n0 w w' W n cs ob pb k o c c' (Ph.abS c.s o.b):=
 DL h hb λhp=>Ph.q4y hp o.b ho
theorem qy8 (h0:SwW n0 w0 W n cs ob pb k o c) (h:qF n0 w0 w W n cs ob pb k o c c' (Ph.abS c.s o.b)) (hb:aF w.heap.size w w1) (ho: -9223372036854775808<=o.b/\o.b<=9223372036854775807):
  az prog 34 #[.pointer (some ⟨c.B.ml,0,none⟩),.int .i64 o.b] w1 λe w'=>e=.returned (.int .i64 (Ph.abE c.s o.b))/\jb n0 w0 W n cs w'/\SwC w' ob pb o c:=by
 refine Ki h hb h0.ck h0.st.ev (λhm=>?_) (jda h0.ok o.b);rw[h0.e];exact Ph.q2h hm o.b ho
theorem jew (jF:x 3=.pointer (some ⟨ob,0,none⟩)) (nH:x 9=.pointer (some ⟨pb,0,none⟩)) (h:SwW n0 w W n cs ob pb k o c) (hs:((-9223372036854775808<=o.b/\o.b<=9223372036854775807)/\(-9223372036854775808<=o.c/\o.c<=9223372036854775807))/\n<=1073741820):ay prog tMv (sj (jb n0 w W n cs)) ⟨SS x,[]⟩ w:=by
 obtain⟨a1,a2,a3,a4,a5,a6⟩:=h.cells;have H:=Hd h;have HS:=Hd hs;clear h hs a4 a5;obtain⟨x,rfl⟩:=qp jF;obtain⟨x,rfl⟩:=qp (x:=x) (j:=9) (v:=.pointer (some ⟨pb,0,none⟩)) nH;clear jF nH;unfold tMv tK6 tK5 tK4 tK3 tK2 tM tB SS;simp only[Tryz.f15,ah,hd1,tl1,c1,c2,blk,upd,ac,if_true,if_false];go_wp2;go_region_held3 (λw'=>w'.cell? ⟨pb,0,none⟩=some (.pointer (some ⟨c.A.cl,0,none⟩))/\w'.cell? ⟨pb,1,none⟩=some (.pointer (some ⟨c.B.ml,0,none⟩))/\w'.cell? ⟨ob,2,none⟩=some (.int .i64 o.b)/\w'.cell? ⟨ob,3,none⟩=some (.int .i64 o.c))
  (first|exact⟨a1,a2,a3,a6⟩|exact⟨H1.cells.1,H1.cells.2.1,H1.cells.2.2.1,H1.cells.2.2.2.2.2⟩|exact⟨H2.2.1,H2.2.2.1,H2.2.2.2.1,H2.2.2.2.2.2.2⟩)
  (first
   |(go_at_call 31;refine(q8v H.o (by first|exact jg _ _|exact(jg _ _).drew) HS.1 HS.2).mono ?_;rintro e w1 ⟨rfl,c',h1⟩;have H1:=Hd h1;clear h1)
   |(go_at_call 32;refine(q2m H.o H1.o (by first|exact jg _ _|exact(jg _ _).drew) HS.1 HS.2).mono ?_;rintro e w2 ⟨rfl,h2⟩;have H2:=Hd h2;clear h2))
 go_wp2;exact⟨rfl,rfl,H2.1⟩
theorem jel (jF:x 3=.pointer (some ⟨ob,0,none⟩)) (nH:x 9=.pointer (some ⟨pb,0,none⟩)) (h:SwW n0 w W n cs ob pb k o c) (hs: -9223372036854775808<=o.b/\o.b<=9223372036854775807):ay prog tAb (sj (jb n0 w W n cs)) ⟨SS x,[]⟩ w:=by
 obtain⟨a1,a2,a3,a4,a5,a6⟩:=h.cells;have H:=Hd h;have HS:=Hd hs;clear h hs a4 a5 a6;obtain⟨x,rfl⟩:=qp jF;obtain⟨x,rfl⟩:=qp (x:=x) (j:=9) (v:=.pointer (some ⟨pb,0,none⟩)) nH;clear jF nH;unfold tAb tK7 tK6 tK5 tK4 tK3 tK2 tM tB SS;simp only[Tryz.f15,ah,hd1,tl1,c1,c2,blk,upd,ac,if_true,if_false];go_wp2;go_region_held3 (λw'=>w'.cell? ⟨pb,0,none⟩=some (.pointer (some ⟨c.A.cl,0,none⟩))/\w'.cell? ⟨pb,1,none⟩=some (.pointer (some ⟨c.B.ml,0,none⟩))/\w'.cell? ⟨ob,2,none⟩=some (.int .i64 o.b))
  (first|exact⟨a1,a2,a3⟩|exact⟨H1.cells.1,H1.cells.2.1,H1.cells.2.2.1⟩|exact⟨H2.2.1,H2.2.2.1,H2.2.2.2.1⟩)
  (first
   |(go_at_call 33;refine(q1s H.o (by first|exact jg _ _|exact(jg _ _).drew) HS.o).mono ?_;rintro e w1 ⟨rfl,c',h1⟩;have H1:=Hd h1;clear h1)
   |(go_at_call 34;refine(qy8 H.o H1.o (by first|exact jg _ _|exact(jg _ _).drew) HS.o).mono ?_;rintro e w2 ⟨rfl,h2⟩;have H2:=Hd h2;clear h2))
 go_wp2;exact⟨rfl,rfl,H2.1⟩
theorem q8p (h:SwW n0 w W n cs ob pb k o c) (hb:aF w.heap.size w w1):az prog 35 #[.pointer (some ⟨c.A.cl,0,none⟩)] w1 λe w'=>e=.returned (.agg (Ph.qU c.s 4))/\SwW n0 w' W n cs ob pb k o c/\aF w.heap.size w w':=
 (Ph.q87 (h.below hb).cst.p).mono λe w' ⟨h1,h2⟩=>⟨h1,(h.below hb).below h2,hb.trans (h2.mono hb.size)⟩
theorem q2l (h:SwW n0 w W n cs ob pb k o c) (hw:aF w0.heap.size w0 w) (hb:aF w.heap.size w w1):az prog 36 #[.pointer (some ⟨c.B.ml,0,none⟩)] w1 λe w'=>e=.returned (.agg (Ph.qU c.s 4))/\SwW n0 w' W n cs ob pb k o c/\aF w0.heap.size w0 w':=by
 rw[h.e];exact(Ph.q7w (h.below hb).cst.m).mono λe w' ⟨h1,h2⟩=>⟨h1,(h.below hb).below h2,hw.trans ((hb.mono hw.size).trans (h2.mono (xlt hw.size hb.size)))⟩
theorem q73 (k:Nat) (a:Int) (W:ae):(aV (k+1) 3 (.int .i64 a) (.int .i64 a)).run prog W=.ok true W:=by
 simp[aV,go_sem]
theorem q2s (k:Nat) (a:Bool) (W:ae):(aV (k+1) 4 (.bool a) (.bool a)).run prog W=.ok true W:=by
 simp[aV,go_sem]
theorem q74 (k:Nat) (a b c d:Int) (W:ae):(aV (k+2) 48 (.agg #[.int .i64 a,.int .i64 b,.int .i64 c,.int .i64 d]) (.agg #[.int .i64 a,.int .i64 b,.int .i64 c,.int .i64 d])).run prog W=.ok true W:=by
 have hc:prog.cellsOf 3=1:=by kernel_rfl
 obtain⟨i,hi⟩:∃i,prog.info? 3=some i:=by
  have h:(prog.info? 3).isSome=true:=by kernel_rfl
  exact aM.1 h
 have h1:=λa W=>q73 k a W;rw[run_equalIn_array (P:=prog) W (k+1) _ _ underlying48 hi,hc];simp[Op.eqItems,part,go_sem,bV,List.range.loop,isAgg,h1]
theorem q2t (k:Nat) (a b c d:Bool) (W:ae):(aV (k+2) 68 (.agg #[.bool a,.bool b,.bool c,.bool d]) (.agg #[.bool a,.bool b,.bool c,.bool d])).run prog W=.ok true W:=by
 have hc:prog.cellsOf 4=1:=by kernel_rfl
 obtain⟨i,hi⟩:∃i,prog.info? 4=some i:=by
  have h:(prog.info? 4).isSome=true:=by kernel_rfl
  exact aM.1 h
 have h1:=λa W=>q2s k a W;rw[run_equalIn_array (P:=prog) W (k+1) _ _ underlying68 hi,hc];simp[Op.eqItems,part,go_sem,bV,List.range.loop,isAgg,h1]
theorem q2u (a b c d:Int) (W:ae):(aV 9999 48 (.agg #[.int .i64 a,.int .i64 b,.int .i64 c,.int .i64 d]) (.agg #[.int .i64 a,.int .i64 b,.int .i64 c,.int .i64 d])).run prog W=.ok true W:=q74 9997 a b c d W
theorem Wo (a b c d:Bool) (W:ae):(aV 9999 68 (.agg #[.bool a,.bool b,.bool c,.bool d]) (.agg #[.bool a,.bool b,.bool c,.bool d])).run prog W=.ok true W:=q2t 9997 a b c d W
theorem jev (nH:x 9=.pointer (some ⟨pb,0,none⟩)) (h:SwW n0 w W n cs ob pb k o c):ay prog tLk (sj (jb n0 w W n cs)) ⟨SS x,[]⟩ w:=by
 obtain⟨a1,a2,_⟩:=h.cells;have H:=Hd h;clear h;obtain⟨x,rfl⟩:=qp nH;clear nH;obtain⟨v,hv⟩:∃v,Ph.qU c.s 4=v:=⟨_,rfl⟩
 have HV:=Hd hv;unfold Ph.qU at hv;generalize Ph.lkO c.s 4 0=x0,Ph.lkO c.s 4 1=x1,Ph.lkO c.s 4 2=x2,Ph.lkO c.s 4 3=x3 at hv;generalize Ph.lkM c.s 4 0=y0,Ph.lkM c.s 4 1=y1,Ph.lkM c.s 4 2=y2,Ph.lkM c.s 4 3=y3 at hv;generalize Ph.lkS c.s 4 0=z0,Ph.lkS c.s 4 1=z1,Ph.lkS c.s 4 2=z2,Ph.lkS c.s 4 3=z3 at hv;subst hv;have p1:=q2u x0 x1 x2 x3;have p2:=Wo y0 y1 y2 y3;have p3:=Wo z0 z1 z2 z3;unfold tLk tK8 tK7 tK6 tK5 tK4 tK3 tK2 tM tB SS;simp only[Tryz.f15,ah,hd1,tl1,c1,c2,blk,upd,ac,if_true,if_false];go_wp2;go_region_held3 (λw'=>w'.cell? ⟨pb,0,none⟩=some (.pointer (some ⟨c.A.cl,0,none⟩))/\w'.cell? ⟨pb,1,none⟩=some (.pointer (some ⟨c.B.ml,0,none⟩)))
  (first|exact⟨a1,a2⟩|exact⟨H1.1.cells.1,H1.1.cells.2.1⟩|exact⟨H2.1.cells.1,H2.1.cells.2.1⟩)
  (first
   |(go_at_call 35;refine(q8p H.o (by first|exact jg _ _|exact(jg _ _).drew)).mono ?_;rw[HV.o];rintro e w1 ⟨rfl,h1⟩;have H1:=Hd h1;clear h1)
   |(go_at_call 36;refine(q2l H1.1 H1.2 (by first|exact jg _ _|exact(jg _ _).drew)).mono ?_;rw[HV.o];rintro e w2 ⟨rfl,h2⟩;have H2:=Hd h2;clear h2))
 go_wp2;exact⟨rfl,rfl,H.st.law.refl' H.st.ev H2.2⟩
end
theorem TY:∃i,prog.info? 9=some i/\i.zero=some (.string ⟨#[]⟩)/\i.size=1/\i.bytes=16:=by
 have h:(prog.info? 9).map (λi=>(i.zero,i.size,i.bytes))=some (some (.string ⟨#[]⟩),1,16):=by kernel_rfl
 obtain⟨i,h1,h2⟩:=aJ.1 h;injection h2 with h2 h3;injection h3 with h3 h4;exact⟨i,h1,h2,h3,h4⟩
section
variable {x:Nat->ai} {w w1:ae} {Q:Exit->Act->ae->Prop} {o:OpV} {W ob pb k n0 n:Nat} {cs:List Cst} {c c':Cst} {kd:Int}
structure Dn (n0:Nat) (w0 w:ae) (W n:Nat) (cs:List Cst):Prop where
 l:∃fJ,j4 n0 w W n fJ/\(∀c∈fJ,Even (n+1) c)/\fJ.length=cs.length
 but:But (λb=>n0<=b) w0 w
theorem Dn.post (h:Dn n0 w0 w W n cs):jb n0 w0 W n cs w:=by
 obtain⟨fJ,h1,h2,h3⟩:=h.l;exact⟨n+1,fJ,h1.up (ao n),h2,ji _,by omega,h.but⟩
theorem Uq {s':St} (h:qF n0 w0 w W n cs ob pb k o c c' s') (hb:aF w.heap.size w w1) (hk:cs[k]?=some c) (he:∀c∈cs,Even n c) {args:Array ai} {v:ai} (hc:yx w1 c'.G c.B c.t->az prog f args w1 (Ph.mE w1 c'.G c.B v s')) (fH:Ok2 (n+1) s'):
  az prog f args w1 λe w'=>e=.returned v/\Dn n0 w0 w' W n cs:=by
 have eH:=(aB.1 hk).1;have pO:(cs.set k c')[k]?=some c':=bq eH;have h1:=h.law.below hb;have kH:=h1.each c' (aL pO);have hm:yx w1 c'.G c.B c.t:=by rw[<-h.t,<-h.ml];exact kH.m
 refine(hc hm).mono λe w' ⟨e1,B',e2,e3,e4⟩=>⟨e1,⟨_,h1.doc pO e4 e3 (e2.trans (by rw[h.ml])),λd hd=>?_,by simp⟩,h.but.trans ((But.of_below (B:=λb=>n0<=b) hb).trans (e4.mono λb hg=>(kH.lo b (.inr hg)).1))⟩
 rw[List.set_set]at hd;rcases bi hd with hd|hd
 ·exact⟨(he d hd).1,(he d hd).2.up (ao n)⟩
 ·subst hd;exact⟨h.s,by rw[show(Cst.s _)=s' from h.s];exact fH⟩
theorem UB {s:St} (h:Ok2 n s) (hn:n<=1073741820):∀i,i<4->∀m,s.mv i=some m->m.n=0/\m.id<9223372036854775808:=λi hi m hm=>by
 have:=h.mv i hi m hm;exact⟨this.nn,by have:=this.id;omega⟩
theorem UG (h:SwW n0 w W n cs ob pb k o c) (ho: -9223372036854775808<=o.b/\o.b<=9223372036854775807) (hn:n<=1073741820):
  az prog 46 #[.pointer (some ⟨c.A.cl,0,none⟩),.int .i64 o.b] w λe w'=>e=.returned (.tuple #[sv (nxV c.s o.b),.int .i64 (nxE c.s o.b)])/\∃c',qF n0 w w' W n cs ob pb k o c c' (nxS c.s o.b):=
 DL h (jg _ _) λhp=>Ph.q89 hp (UB h.ok hn) o.b ho
theorem Vq (h0:SwW n0 w0 W n cs ob pb k o c) (h:qF n0 w0 w W n cs ob pb k o c c' (nxS c.s o.b)) (ho: -9223372036854775808<=o.b/\o.b<=9223372036854775807) (hn:n<=1073741820):
  az prog 61 #[.pointer (some ⟨c.B.ml,0,none⟩),.int .i64 o.b] w λe w'=>e=.returned (.tuple #[sv (nxV c.s o.b),.int .i64 (nxE c.s o.b)])/\Dn n0 w0 w' W n cs:=by
 refine Uq h (jg _ _) h0.ck h0.st.ev (λhm=>?_) (jde h0.ok hn o.b);rw[h0.e];exact Ph.q7y hm (UB h0.okt hn) o.b ho
theorem jc8 (s:St) (k:Int):nxE s k=0\/nxE s k=8\/nxE s k=11:=by
 unfold nxE;split
 ·exact .inr (.inl rfl)
 ·split
  ·exact .inr (.inr rfl)
  ·exact .inl rfl
theorem Dn.bs (h:Dn n0 w0 w W n cs):∃(v:ai) (bs:List Bs),w.cell? ⟨W,1,none⟩=some v/\w.frozen? ⟨W,1,none⟩=false/\(bs.length<=n/\∀b∈bs,b.length<=32)/\w.ownsRow n0 9 1 v bs.length (bs.map sv)/\n0<=w.heap.size/\
  ∀(b0:Bs) (w3:ae) (v3:ai) (F7:Obj),(w.alloc F7).grownBy w3 v.ownBlock->(v3.ownBlock=v.ownBlock\/v3.ownBlock=some (w.alloc F7).heap.size)->w3.ownsRow n0 9 1 v3 (bs.length+1) (bs.map sv++[sv b0])->b0.length<=32->
   w3.cell? ⟨W,1,none⟩=some v/\w3.frozen? ⟨W,1,none⟩=false/\jb n0 w0 W n cs (w3.setCell ⟨W,1,none⟩ v3):=by
 obtain⟨fJ,h1,h2,h3⟩:=h.l;obtain⟨CS,S,m,bs,hw⟩:=h1.b;obtain⟨cur,k1,q2,k2,k3,k4⟩:=hw.ls.b;refine⟨CS.bs,bs,by simp[aa,k1,k3],by simp[ax,k1],hw.le.2,hw.br,h1.BS,λb0 w3 v3 F7 hg rD hr oH=>?_⟩;obtain⟨a1,a2,a3,a4⟩:=h1.told hw hg (λg e=>by
  rcases rD with e2|e2
  ·left;rw[<-e2];exact e
  ·right;rw[e2]at e;cases e;simp) hr oH
 exact⟨a1,a2,n+1,fJ,a3,h2,ji _,by omega,h.but.trans a4⟩
theorem q9q (h:j4 n0 w W n cs) (he:∀c∈cs,Even n c) (hk:cs[k]?=some c) (h9:o.k=9) (ho: -9223372036854775808<=o.b/\o.b<=9223372036854775807) (hn:n<=1073741820):
  az prog 37 #[.pointer (some ⟨W,0,none⟩),.agg #[.pointer (some ⟨c.A.cl,0,none⟩),.pointer (some ⟨c.B.ml,0,none⟩)],.agg o.cells] w λe w'=>e=.returned (.bool true)/\jb n0 w W n cs w':=by
 have hm:=aL hk;have hS:SwW n0 ((w.alloc (.cells #[.pointer (some ⟨c.A.cl,0,none⟩),.pointer (some ⟨c.B.ml,0,none⟩)] 56)).alloc (.cells o.cells 30)) W n cs (w.heap.size+1) w.heap.size k o c:=by
  have b1:aF w.heap.size w ((w.alloc (.cells #[.pointer (some ⟨c.A.cl,0,none⟩),.pointer (some ⟨c.B.ml,0,none⟩)] 56)).alloc (.cells o.cells 30)):=((jg _ _).alloc (ji _) _).alloc (by simp) _;refine⟨⟨h.below b1,he,heap_alloc_new' _ _ (by simp),λd hd ho=>?_⟩,?_,hk,λho=>?_⟩
  ·have:=((h.each d hd).lo _ ho).2;omega
  ·unfold Ao;rw[aD _ _ (by simp)];exact aI _ _
  ·have:=((h.each c hm).lo _ ho).2;omega
 have kF:But (λb=>n0<=b) w ((w.alloc (.cells #[.pointer (some ⟨c.A.cl,0,none⟩),.pointer (some ⟨c.B.ml,0,none⟩)] 56)).alloc (.cells o.cells 30)):=But.of_below (((jg _ _).alloc (ji _) _).alloc (by simp) _);have HS:=Hd hS;have CR:=Hd kF;have HN:=Hd hn;have HB:=Hd ho;have HNV:=Hd (q8y (k:=o.b) (he c hm).2 hn);obtain⟨gs,hg⟩:∃gs,sv (nxV c.s o.b)=.string gs:=⟨_,rfl⟩
 have HG:=Hd hg;have jK:=jc8 c.s o.b;obtain⟨ge,ol⟩:∃ge,nxE c.s o.b=ge:=⟨_,rfl⟩
 rw[ol]at jK;have HE:=Hd ol;obtain⟨si,l1,l2,l3,l4⟩:=TY;have HI:=Hd (ag l1 (ag l2 (ag l3 l4)));clear h he hk hm hS kF hn ho hg ol l1 l2 l3 l4;rcases jK with rfl|rfl|rfl
 ·unfold OpV.cells at*;rw[h9]at*;go_enter func37,ntmps37;go_wp2_with (first
   |(go_at_call 46;refine(UG HS.o HB.o HN.o).mono ?_;rintro e w2 ⟨rfl,c',h2⟩;rw[HG.o,HE.o];have H2:=Hd h2;obtain⟨a1,a2,a3,_⟩:=h2.cells;clear h2)
   |(go_at_call 61;refine(Vq HS.o H2.o HB.o HN.o).mono ?_;rintro e w3 ⟨rfl,h3⟩;rw[HG.o,HE.o];obtain⟨bv,bs,d1,d2,d3,d4,d5,d6⟩:=h3.bs;obtain⟨sa,cp,hv⟩:=xg d4;rw[hv]at d1 d4 d6;have H3:=Hd (ag d3 (ag d4 (ag d5 d6)));clear h3 d3 d4 d5 d6 hv)
   |(at_builtin;(refine bD _ rfl (.tmp 43) (.tmp 45) 33 rfl n0 9 si _ 1 16 underlying33 HI.1 HI.2.1 HI.2.2.1 HI.2.2.2 rfl (by decide) (.slice sa bs.length cp) bs.length (bs.map sv) rfl (H3.2.1.alloc _) ⟨w3.heap.size,0,none⟩ 1 1 [.string gs] rfl rfl (cell1 w3 _ _) (by intro u hu;simp at hu;subst hu;rfl) (by have:=H3.1.1;have:=HN.o;unfold aO;omega) (by have:=H3.1.1;have:=HN.o;omega) (by have:=H3.2.2.1;simp;omega) ?_;intro v4 w4 gu nI _ Ip;have H4:=Hd (H3.2.2.2 (nxV c.s o.b) w4 v4 _ nI Ip (by rw[HG.o];exact gu) HNV.o);obtain⟨sa4,cp4,Qn⟩:=xg gu;subst Qn;obtain⟨f3,f4,_⟩:=H4.o;clear gu nI Ip)))
  go_ret;obtain⟨n',fJ,q1,q2,q3,q4,q5⟩:=H4.2.2;exact⟨rfl,n',fJ,q1,q2,q3,q4,CR.trans q5⟩
 all_goals
  unfold OpV.cells at*;rw[h9]at*;go_enter func37,ntmps37;go_wp2_with (first
   |(go_at_call 46;refine(UG HS.o HB.o HN.o).mono ?_;rintro e w2 ⟨rfl,c',h2⟩;rw[HG.o,HE.o];have H2:=Hd h2;obtain⟨a1,a2,a3,_⟩:=h2.cells;clear h2)
   |(go_at_call 61;refine(Vq HS.o H2.o HB.o HN.o).mono ?_;rintro e w3 ⟨rfl,h3⟩;rw[HG.o,HE.o];have H3:=Hd h3;clear h3))
  go_ret;obtain⟨n',fJ,q1,q2,q3,q4,q5⟩:=H3.post;exact⟨rfl,n',fJ,q1,q2,q3,q4,CR.trans q5⟩
theorem Oa (h:FrX W ob pb kd x) (hs:SwW n0 w W n cs ob pb k o c) (hc:az prog 37 #[.pointer (some ⟨W,0,none⟩),.agg #[.pointer (some ⟨c.A.cl,0,none⟩),.pointer (some ⟨c.B.ml,0,none⟩)],.agg o.cells] w λe w'=>e=.returned (.bool true)/\jb n0 w W n cs w'):ay prog (tl1 tM) (sj (jb n0 w W n cs)) ⟨SS x,[]⟩ w:=by
 obtain⟨x,rfl⟩:=h.lay;have HC:=Hd hc;have p0:w.heap[pb]?=some (.cells #[.pointer (some ⟨c.A.cl,0,none⟩),.pointer (some ⟨c.B.ml,0,none⟩)] 56 (0,0)):=hs.pr;have o0:w.heap[ob]?=some (.cells #[.int .i64 o.k,.int .i64 o.a,.int .i64 o.b,.int .i64 o.c,.int .i64 o.d,.int .i64 o.e,.int .i64 o.f,.string o.s,.string o.t,.string o.u] 30 (0,0)):=hs.st.op;obtain⟨q0,q1,_⟩:=hs.cells;have r0:w.cell? ⟨ob,0,none⟩=some (.int .i64 o.k):=by simp[aa,o0]
 have r1:w.cell? ⟨ob,1,none⟩=some (.int .i64 o.a):=by simp[aa,o0]
 have r2:w.cell? ⟨ob,2,none⟩=some (.int .i64 o.b):=by simp[aa,o0]
 have r3:w.cell? ⟨ob,3,none⟩=some (.int .i64 o.c):=by simp[aa,o0]
 have r4:w.cell? ⟨ob,4,none⟩=some (.int .i64 o.d):=by simp[aa,o0]
 have r5:w.cell? ⟨ob,5,none⟩=some (.int .i64 o.e):=by simp[aa,o0]
 have r6:w.cell? ⟨ob,6,none⟩=some (.int .i64 o.f):=by simp[aa,o0]
 have r7:w.cell? ⟨ob,7,none⟩=some (.string o.s):=by simp[aa,o0]
 have r8:w.cell? ⟨ob,8,none⟩=some (.string o.t):=by simp[aa,o0]
 have r9:w.cell? ⟨ob,9,none⟩=some (.string o.u):=by simp[aa,o0]
 clear h hs hc p0 o0;unfold tM tB SS;simp only[Tryz.f15,ah,hd1,tl1,upd,ac,if_true,if_false];go_wp2_with (go_at_call 37;refine HC.mono ?_;rintro e w1 ⟨rfl,h1⟩;have H1:=Hd h1;clear h1)
 exact⟨rfl,rfl,H1.o⟩
theorem q57 (h:FrX W ob pb kd x) (hs:SwW n0 w W n cs ob pb k o c) (h9:o.k=9) (hb: -9223372036854775808<=o.b/\o.b<=9223372036854775807) (hn:n<=1073741820):ay prog (tl1 tM) (sj (jb n0 w W n cs)) ⟨SS x,[]⟩ w:=Oa h hs (q9q hs.st.law hs.st.ev hs.ck h9 hb hn)
end
def jJ:Bs->Bool->UInt8×Bs×Bool
 |[],_=>(0,[],true)
 |b::r,bad=>(b,r,bad)
def iN:Nat->Bool->Nat->Nat->Bs->Bool->Nat×Bs×Bool
 |0,_,_,_,_,_=>(0,[],true)
 |k+1,first,a,m,s,bad=>if !first&&(jJ s bad).1.toNat==0 then(0,[],true)else if(jJ s bad).1.toNat<128 then(a+(jJ s bad).1.toNat%128*m,(jJ s bad).2)else iN k false (a+(jJ s bad).1.toNat%128*m) (m*128) (jJ s bad).2.1 (jJ s bad).2.2
def takeC (n:Nat) (l:Bs) (bad:Bool):Bs×Bs×Bool:=if l.length<n then([],[],true)else(l.take n,l.drop n,bad)
theorem DN:∀(k:Nat) (first:Bool) (a m:Nat) (s:Bs),match oh k first a m s with
  |some p=>iN k first a m s false=(p.1,p.2,false)
  |none=>(iN k first a m s false).2=([],true)
 |0,_,_,_,_=>rfl
 |k+1,first,a,m,[]=>by
  show(iN (k+1) first a m [] false).2=([],true);cases first<;>rfl
 |k+1,first,a,m,b::s=>by
  have ih:=DN k false (a+b.toNat%128*m) (m*128) s;rw[oh];have e:(jJ (b::s) false)=(b,s,false):=rfl;have e2:iN (k+1) first a m (b::s) false=if !first&&b.toNat==0 then(0,[],true)else if b.toNat<128 then(a+b.toNat%128*m,(s,false))else iN k false (a+b.toNat%128*m) (m*128) s false:=rfl
  rw[e2];by_cases h1:(!first&&b.toNat==0)=true
  ·rw[if_pos h1,if_pos h1]
  ·rw[if_neg h1,if_neg h1];by_cases h2:b.toNat<128
   ·rw[if_pos h2,if_pos h2,Nat.mod_eq_of_lt h2]
   ·rw[if_neg h2,if_neg h2];exact ih
def lX (w:ae) (cb:Nat) (l:Bs) (bad:Bool):Prop:=w.heap[cb]?=some (.cells #[sv l,.bool bad] 212 (0,0))
theorem ql (l:Bs):∃s:ByteArray,s.data.toList=l:=⟨⟨l.toArray⟩,by simp⟩
theorem vQ (h:s.data.toList=l):s.size=l.length:=by rw[<-h];simp
theorem ext_list (s:ByteArray) (i j:Nat):(s.extract i j).data.toList=(s.data.toList.take j).drop i:=by
 rw[ByteArray.data_extract,Array.toList_extract];simp[List.drop_take]
section
variable {w w':ae} {cb:Nat} {l:Bs} {bad:Bool}
theorem lX.cells {s:ByteArray} (h:lX w cb l bad) (hs:s.data.toList=l):w.cell? ⟨cb,0,none⟩=some (.string s)/\w.cell? ⟨cb,1,none⟩=some (.bool bad)/\w.frozen? ⟨cb,0,none⟩=false/\w.frozen? ⟨cb,1,none⟩=false:=by
 unfold lX at h;rw[qw hs]at h;exact⟨by simp[aa,h],by simp[aa,h],by simp[ax,h],by simp[ax,h]⟩
def AU (w:ae) (cb:Nat) (v:ai) (r:Bs×Bool) (e:cu) (w':ae):Prop:=e=.returned v/\lX w' cb r.1 r.2/\But (· =cb) w w'
theorem lX.rest {r:Bs} (h:lX w cb l bad) (hs:s.data.toList=r):lX (w.setCell ⟨cb,0,none⟩ (.string s)) cb r bad/\But (· =cb) w (w.setCell ⟨cb,0,none⟩ (.string s)):=by
 have k:=xhs w cb 0 _ _ (.string s) h;exact⟨by unfold lX;rw[k,qw hs];rfl,But.setCell (B:=(· =cb)) (But.refl _ _) rfl _ _⟩
theorem lX.fail (h:lX w cb l bad):lX ((w.setCell ⟨cb,1,none⟩ (.bool true)).setCell ⟨cb,0,none⟩ (.string ⟨#[]⟩)) cb [] true/\But (· =cb) w ((w.setCell ⟨cb,1,none⟩ (.bool true)).setCell ⟨cb,0,none⟩ (.string ⟨#[]⟩)):=by
 have k1:=xhs w cb 1 _ _ (.bool true) h;have k2:=xhs _ cb 0 _ _ (.string ⟨#[]⟩) k1;exact⟨k2.trans rfl,But.setCell (B:=(· =cb)) (But.setCell (B:=(· =cb)) (But.refl _ _) rfl _ _) rfl _ _⟩
theorem Kg (h:lX w cb l bad):az prog 138 #[.pointer (some ⟨cb,0,none⟩)] w (AU w cb (.tuple #[]) ([],true)):=by
 obtain⟨s,hs⟩:=ql l;obtain⟨c0,c1,f0,f1⟩:=h.cells hs;have HK:=Hd h.fail;clear h hs;go_enter func138,ntmps138;go_wp2;go_end0;exact⟨rfl,HK.o⟩
theorem GY (h:lX w cb l bad):az prog 127 #[.pointer (some ⟨cb,0,none⟩)] w (AU w cb (.int .u8 (jJ l bad).1.toNat) (jJ l bad).2):=by
 obtain⟨s,hs⟩:=ql l;obtain⟨c0,c1,f0,f1⟩:=h.cells hs;have hl:=vQ hs;cases l with
 |nil=>
  have he:s.toList.isEmpty=true:=by rw[toList_nil (by simpa using hl)];rfl
  have HC:=Hd (Kg h);clear h hs hl;go_enter func127,ntmps127;go_wp2_with (go_at_call 138;refine HC.mono ?_;rintro e w1 ⟨rfl,h1⟩;have H1:=Hd h1;clear h1)
  go_ret;exact⟨rfl,H1.o⟩
 |cons b r=>
  simp at hl;have hz:0<s.size:=by omega
  have he:s.toList.isEmpty=false:=H6 hz;have h0:(s[0]'hz)=b:=by
   have h1:s[0]'hz=s.data.toList[0]'(by rw[hs];simp):=by simp[aX]
   rw[h1];simp[hs]
  have hr:(s.extract 1 s.size).data.toList=r:=by
   rw[ext_list,bw (by simp),hs];rfl
  have HR:=Hd (h.rest hr);have hz1:((1:Int)<=s.size):=by omega
  clear h hs hr hl;go_enter func127,ntmps127;go_wp2;go_ret;exact⟨rfl,HR.o⟩
theorem q7r (h:lX w cb l bad) (n:Nat):az prog 139 #[.pointer (some ⟨cb,0,none⟩),.int .i64 n] w (AU w cb (sv (takeC n l bad).1) (takeC n l bad).2):=by
 obtain⟨s,hs⟩:=ql l;obtain⟨c0,c1,f0,f1⟩:=h.cells hs;have hz:=vQ hs;by_cases eH:l.length<n
 ·rw[show takeC n l bad=([],[],true)from if_pos eH];have g1:decide ((s.size:Int)<n)=true:=xdt (by omega);have HC:=Hd (Kg h);clear h hs;go_enter func139,ntmps139;go_wp2_with (go_at_call 138;refine HC.mono ?_;rintro e w1 ⟨rfl,h1⟩;have H1:=Hd h1;clear h1)
  go_ret;exact⟨rfl,H1.o⟩
 ·rw[show takeC n l bad=(l.take n,l.drop n,bad)from if_neg eH];have g1:decide ((s.size:Int)<n)=false:=xdf (by omega);have hr:(s.extract n s.size).data.toList=l.drop n:=by
   rw[ext_list,bw (by simp),hs]
  have HR:=Hd (h.rest hr);have HV:Hid (sv (l.take n)=.string (s.extract 0 n)):=Hd (qw (by rw[ext_list,hs];rfl));have En:((n:Int)<=s.size):=by omega
  have Gg:n<=s.size:=by omega
  rw[show(l.take n,l.drop n,bad).1=l.take n from rfl,HV.o];clear h hs hr hz eH;go_enter func139,ntmps139;go_wp2;go_ret;exact⟨rfl,HR.o⟩
structure Iw (w:ae) (cb:Nat) (l0:Bs) (qQ:Bool) (j a:Nat) (wr:ae):Prop where
 b:∃l bad,lX wr cb l bad/\iN 4 true 0 1 l0 qQ=iN (4-j) (j==0) a (128^j) l bad
 a:a<128^j
 but:But (· =cb) w wr
theorem jdk {a m b:Nat} (j:Nat) (h:a<128^j) (hm:m=128^j):a|||(b*m)=a+b*m:=by
 have e:128^j=2^(7*j):=by rw[Nat.pow_mul]
 rw[hm,e,Nat.or_comm,<-Nat.shiftLeft_eq,Nat.add_comm];exact(Nat.shiftLeft_add_eq_or_of_lt (by rw[<-e];exact h) b).symm
theorem jc7 {a c:Nat} (hj:j<4) (ha:a<128^j) (hc:c<256):bits .or .i64 (a:Int) (wrap64 (wrap64 (bits .and .u8 (c:Int) 127)*2^(7*j)))=((a+c%128*128^j:Nat):Int):=by
 have e1:=u8_and_nat c 127 hc (by decide);rw[show((127:Nat):Int)=127 from rfl,show c&&&127=c%128 from Nat.and_two_pow_sub_one_eq_mod c 7]at e1;have hp:128^j<=128^3:=Nat.pow_le_pow_right (by decide) (by omega);have hm:c%128*128^j<=127*128^3:=Nat.mul_le_mul (by omega) hp;have e2:((2:Int)^(7*j))=((128^j:Nat):Int):=by rw[Int.pow_mul];simp
 have e3:wrap64 ((c%128:Nat):Int)=((c%128:Nat):Int):=by unfold wrap64;omega
 have e4:wrap64 (((c%128*128^j:Nat)):Int)=((c%128*128^j:Nat):Int):=by unfold wrap64;omega
 rw[e1,e3,e2,<-Int.natCast_mul,e4,qvn a _ (by omega) (by omega),jdk j ha rfl]
theorem Iw.step {w0 w2:ae} {l0 l1:Bs} {qQ lI:Bool} {j a:Nat} (h:Iw w0 cb l0 qQ j a w) (hj:j<4) (he:iN 4 true 0 1 l0 qQ=iN (4-j) (j==0) a (128^j) l1 lI) (h1:lX w2 cb (jJ l1 lI).2.1 (jJ l1 lI).2.2/\But (· =cb) w w2):
  (0<j->(jJ l1 lI).1.toNat=0->iN 4 true 0 1 l0 qQ=(0,[],true))/\(¬(0<j/\(jJ l1 lI).1.toNat=0)->(jJ l1 lI).1.toNat<128->iN 4 true 0 1 l0 qQ=(a+(jJ l1 lI).1.toNat%128*128^j,(jJ l1 lI).2))/\(128<=(jJ l1 lI).1.toNat->Iw w0 cb l0 qQ (j+1) (a+(jJ l1 lI).1.toNat%128*128^j) w2):=by
 obtain⟨q,hq⟩:∃q,4-j=q+1:=⟨3-j,by omega⟩
 have wP:4-(j+1)=q:=by omega
 obtain⟨X,hX⟩:∃X,iN 4 true 0 1 l0 qQ=X:=⟨_,rfl⟩
 rw[hX]at he⊢;rw[hq,iN]at he;refine⟨λhj0 hc=>?_,λhn hc=>?_,λhc=>⟨⟨_,_,h1.1,?_⟩,?_,h.but.trans h1.2⟩⟩
 ·rw[he,if_pos (by rw[hc];simp;omega)]
 ·rw[he,if_neg (by simp only[aH,bL,beq_eq_false_iff_ne,beq_iff_eq];omega),if_pos hc]
 ·rw[hX,he,if_neg (by simp only[aH,bL,beq_eq_false_iff_ne,beq_iff_eq];omega),if_neg (by omega),wP,bz];rfl
 ·have:=h.a;have h2:(jJ l1 lI).1.toNat%128*128^j<=127*128^j:=bE _ (by omega);rw[bz];omega
theorem DK (h:lX w cb l bad):az prog 128 #[.pointer (some ⟨cb,0,none⟩)] w (AU w cb (.int .i64 (iN 4 true 0 1 l bad).1) (iN 4 true 0 1 l bad).2):=by
 have HS:Hid (Iw w cb l bad 0 0 w):=Hd ⟨⟨l,bad,h,rfl⟩,by decide,But.refl _ _⟩;clear h;go_enter func128,ntmps128;go_wp2;go_loopw [3,4] (λn k wr=>∃j a:Nat,j<=4/\n=.int .i64 a/\k=.int .i64 (7*j:Nat)/\Hid (Iw w cb l bad j a wr)) (λ_ k _=>28-(intOf k).toNat);case atStart=>exact⟨0,0,by omega,rfl,rfl,HS⟩
 case round=>
  obtain⟨j,a,hj,rfl,rfl,HR⟩:=hrel;obtain⟨l1,lI,h1,h2⟩:=HR.b;have vX:=Hd h1;have HE:=Hd h2;clear h1 h2;by_cases qK:j<4
  ·have HB:=Hd (GY vX.o);have eo:=jc7 qK HR.a (wL (jJ l1 lI).1);obtain⟨c,hc⟩:∃c,(jJ l1 lI).1.toNat=c:=⟨_,rfl⟩
   have HT:=Hd (λw2 h=>HR.step (w2:=w2) qK HE.o h);rw[hc]at HB HT eo;clear hc;go_wp2_with (first
    |(go_at_call 127;refine HB.mono ?_;rintro e w1 ⟨rfl,h1⟩;have H1:=Hd h1;clear h1)
    |(go_at_call 138;refine(Kg H1.1).mono ?_;rintro e w2 ⟨rfl,h2⟩;have H2:=Hd h2;clear h2))
   ·rename_i z1 z2;go_ret;rw[AU,(HT.o _ H1.o).1 (by omega) (by simpa using z2)];exact⟨rfl,H2.1,HR.but.trans (H1.2.trans H2.2)⟩
   ·rename_i z1 z2 z3;go_ret;rw[AU,(HT.o _ H1.o).2.1 (λe=>by have:=e.2;simp[this]at z2) (by omega)];exact⟨by simp,H1.1,HR.but.trans H1.2⟩
   ·go_roundw;case rel=>exact⟨j+1,_,by omega,by simp,by go_num,Hd ((HT.o _ H1.o).2.2 (by omega))⟩
    case measure=>simp[intOf];omega
   ·rename_i z2 z3;go_ret;rw[AU,(HT.o _ H1.o).2.1 (by omega) (by omega)];exact⟨by simp,H1.1,HR.but.trans H1.2⟩
   ·go_roundw;case rel=>exact⟨j+1,_,by omega,by simp,by go_num,Hd ((HT.o _ H1.o).2.2 (by omega))⟩
    case measure=>simp[intOf];omega
  ·obtain rfl:j=4:=by omega
   go_wp2_with (go_at_call 138;refine(Kg vX.o).mono ?_;rintro e w2 ⟨rfl,h2⟩;have H2:=Hd h2;clear h2)
   go_ret;exact⟨by rw[HE.o];rfl,by rw[HE.o];exact H2.1,HR.but.trans H2.2⟩
def lY (l:Bs) (bad:Bool):Bs×Bs×Bool:=takeC (iN 4 true 0 1 l bad).1 (iN 4 true 0 1 l bad).2.1 (iN 4 true 0 1 l bad).2.2
theorem Vy (l:Bs) (bad:Bool):(jJ l bad).2.1.length<=l.length:=by
 cases l with
 |nil=>exact ji _
 |cons b r=>exact ao _
theorem FQ:∀(k:Nat) (first:Bool) (a m:Nat) (l:Bs) (bad:Bool),(iN k first a m l bad).2.1.length<=l.length
 |0,_,_,_,_,_=>xzl _
 |k+1,first,a,m,l,bad=>by
  have h:=Vy l bad;rw[iN];split
  ·exact xzl _
  ·split
   ·exact h
   ·exact xlt (FQ ..) h
theorem Hg:∀(k:Nat) (first:Bool) (a m:Nat) (l:Bs) (bad:Bool),(iN k first a m l bad).1+m<=a+m*128^k
 |0,_,a,m,_,_=>by show 0+m<=a+m*128^0;omega
 |k+1,first,a,m,l,bad=>by
  have hp:m*128<=m*128^(k+1):=Nat.mul_le_mul_left _ (by rw[bz];have:0<128^k:=Nat.pow_pos (by decide);omega);have hb:(jJ l bad).1.toNat%128*m<=127*m:=bE _ (by omega);rw[iN];split
  ·show 0+m<=_;omega
  ·split
   ·show a+(jJ l bad).1.toNat%128*m+m<=_;omega
   ·have h:=Hg k false (a+(jJ l bad).1.toNat%128*m) (m*128) (jJ l bad).2.1 (jJ l bad).2.2;have e:m*128*128^k=m*128^(k+1):=by rw[bz,Nat.mul_comm (128^k),Nat.mul_assoc]
    rw[e]at h;omega
theorem AL (h:lX w cb l bad):az prog 129 #[.pointer (some ⟨cb,0,none⟩)] w (AU w cb (sv (lY l bad).1) (lY l bad).2):=by
 have HN:=Hd (DK h);unfold lY;obtain⟨X,hX⟩:∃X,iN 4 true 0 1 l bad=X:=⟨_,rfl⟩
 rw[hX]at HN⊢;clear h hX;obtain⟨n,l1,lI⟩:=X;have HT:=Hd (λw1 (h1:lX w1 cb l1 lI)=>q7r h1 n);obtain⟨Y,hY⟩:∃Y,takeC n l1 lI=Y:=⟨_,rfl⟩
 show az _ _ _ _ (AU w cb (sv (takeC n l1 lI).1) (takeC n l1 lI).2);rw[hY]at HT⊢;clear hY;obtain⟨s,hs⟩:=ql Y.1;rw[qw hs]at HT⊢;clear hs;go_enter func129,ntmps129;go_wp2_with (first
  |(go_at_call 128;refine HN.mono ?_;rintro e w1 ⟨rfl,h1⟩;have H1:=Hd h1;clear h1)
  |(go_at_call 139;refine(HT.o _ H1.1).mono ?_;rintro e w2 ⟨rfl,h2⟩;have H2:=Hd h2;clear h2))
 go_ret;exact⟨rfl,H2.1,H1.2.trans H2.2⟩
end
theorem N9 (l:Bs):match j5 l with
  |some p=>lY l false=(p.1,p.2,false)
  |none=>(lY l false).2=([],true):=by
 have h:=DN 4 true 0 1 l;unfold j5 j6 lY;cases hn:oh 4 true 0 1 l with
 |none=>
  rw[hn]at h;simp only at h;rw[aY];show(takeC _ (iN 4 true 0 1 l false).2.1 (iN 4 true 0 1 l false).2.2).2=_;rw[h];unfold takeC;split<;>simp
 |some p=>
  rw[hn]at h;simp only at h;rw[h,aA];unfold takeC;by_cases e:p.2.length<p.1
  ·simp only[if_pos e]
  ·simp only[if_neg e]
theorem DW (k:Nat) (first:Bool) (a m:Nat):(iN k first a m [] true).2=([],true):=by
 cases k<;>cases first<;>rfl
theorem Hz:(lY [] true).2=([],true):=by
 unfold lY takeC;rw[DW];split<;>simp
def frC (l:Bs):Fr×Bs×Bool:=
 let c1:=jJ l false
 let c2:=jJ c1.2.1 c1.2.2
 let c3:=iN 4 true 0 1 c2.2.1 c2.2.2
 let c4:=iN 4 true 0 1 c3.2.1 c3.2.2
 let c5:=lY c4.2.1 c4.2.2
 (⟨c1.1.toNat,c2.1.toNat,c3.1,c4.1,c5.1⟩,c5.2)
theorem jcn (l:Bs):match parse l with
  |some f=>frC l=(f,[],false)
  |none=>(!(frC l).2.2&&(frC l).2.1.isEmpty)=false:=by
 have bad:∀(f:Bs->Bool->Bs×Bool),True:=λ_=>trivial;match l with
 |[]=>simp only[parse,frC,jJ];rw[DW,DW,Hz];rfl
 |[k]=>simp only[parse,frC,jJ];rw[DW,DW,Hz];rfl
 |k::sh::r=>
  simp only[parse,frC,jJ];have h1:=DN 4 true 0 1 r;unfold j6;cases e1:oh 4 true 0 1 r with
  |none=>
   rw[e1]at h1;simp only at h1;rw[aY];simp only;rw[h1];simp only;rw[DW,Hz];rfl
  |some p=>
   rw[e1]at h1;simp only at h1;rw[aA,h1];simp only;have h2:=DN 4 true 0 1 p.2;cases e2:oh 4 true 0 1 p.2 with
   |none=>
    rw[e2]at h2;simp only at h2;rw[aY];simp only;rw[h2,Hz];rfl
   |some q=>
    rw[e2]at h2;simp only at h2;rw[aA,h2];simp only;have h3:=N9 q.2;cases e3:j5 q.2 with
    |none=>
     rw[e3]at h3;simp only at h3;rw[aY];simp only;rw[h3];rfl
    |some t=>
     rw[e3]at h3;simp only at h3;rw[aA,h3];simp only;by_cases e:t.2=[]
     ·rw[if_pos e,e]
     ·rw[if_neg e];simpa using e
def frV (f:Fr):ai:=.agg #[.int .u8 f.kind,.int .i64 f.qc,.int .i64 f.id,.int .i64 f.n,sv f.load]
def sK (v:Fr->ai) (w:ae) (l:Bs) (e:cu) (w':ae):Prop:=(match mq l with
  |some f=>e=.returned (.tuple #[v f,.bool true])
  |none=>∃f,e=.returned (.tuple #[v f,.bool false]))/\But (λ_=>False) w w'
theorem Ug (x i:Nat) (hi:i<4):(le4 x)[i]?=some (b8 (x/2^(8*i))):=by
 match i,hi with
 |0,_|1,_|2,_|3,_=>simp[le4]
structure RdW (w wr:ae):Prop where
 r:wr.heap[w.heap.size]?=some (.cells #[.int .u8 0,.int .i64 0,.int .i64 0,.int .i64 0,.string ⟨#[]⟩] 133 (0,0))
 b:But (λ_=>False) w wr
section
variable {w wr w2:ae} {cb:Nat} {l:Bs} {bad:Bool}
theorem RdW.of (w:ae):RdW w (w.alloc (.cells #[.int .u8 0,.int .i64 0,.int .i64 0,.int .i64 0,.string ⟨#[]⟩] 133)):=⟨aI _ _,But.of_below ((jg _ _).alloc (ji _) _)⟩
theorem RdW.lt (h:RdW w wr):w.heap.size<wr.heap.size:=(zi h.r).1
theorem RdW.below (h:RdW w wr) (hb:aF wr.heap.size wr w2):RdW w w2:=⟨(hb.block _ h.lt).trans h.r,h.b.trans (But.of_below hb)⟩
theorem But.top (h:But B w0 w) {C:Nat->Prop} (k:But C w w2) (hc:∀b,C b->B b\/w0.heap.size<=b):But B w0 w2:=⟨xlt h.size k.size,λi hi hb=>(k.keep i (xll hi h.size) λx=>(hc i x).elim hb λy=>by omega).trans (h.keep i hi hb),k.os.trans h.os,k.output.trans h.output⟩
theorem RdW.but (h:RdW w wr) (hc:w.heap.size<cb) (hb:But (· =cb) wr w2):RdW w w2:=⟨(hb.keep _ h.lt (by omega)).trans h.r,h.b.top hb λb e=>.inr (by omega)⟩
theorem RdW.cells (h:RdW w wr):wr.cell? ⟨w.heap.size,0,none⟩=some (.int .u8 0)/\wr.cell? ⟨w.heap.size,1,none⟩=some (.int .i64 0)/\wr.cell? ⟨w.heap.size,2,none⟩=some (.int .i64 0)/\wr.cell? ⟨w.heap.size,3,none⟩=some (.int .i64 0)/\wr.cell? ⟨w.heap.size,4,none⟩=some (.string ⟨#[]⟩)/\∀j,wr.frozen? ⟨w.heap.size,j,none⟩=false:=
 ⟨by simp[aa,h.r],by simp[aa,h.r],by simp[aa,h.r],by simp[aa,h.r],by simp[aa,h.r],λj=>by simp[ax,h.r]⟩
theorem RdW.drewN (h:RdW w wr) (n:Nat):RdW w (wr.drewN n):=⟨h.r,h.b.size,h.b.keep,h.b.os,h.b.output⟩
theorem But.fresh (h:But (· =w.heap.size) w wr):But (λ_=>False) w wr:=⟨h.size,λb hb _=>h.keep b hb (by omega),h.os,h.output⟩
theorem RdW.b' (h:RdW w wr):But (· =w.heap.size) w wr:=h.b.mono λ_ e=>e.elim
theorem jds (h:But (· =w.heap.size) w wr) (a b c d e:ai) (o:Obj):But (· =w.heap.size) w ((((((wr.setCell ⟨w.heap.size,0,none⟩ a).setCell ⟨w.heap.size,1,none⟩ b).setCell ⟨w.heap.size,2,none⟩ c).setCell ⟨w.heap.size,3,none⟩ d).setCell ⟨w.heap.size,4,none⟩ e).alloc o):=(But.setCell (But.setCell (But.setCell (But.setCell (But.setCell h rfl _ _) rfl _ _) rfl _ _) rfl _ _) rfl _ _).trans (But.of_below ((jg _ _).alloc (ji _) _))
theorem sK.no {v:Fr->ai} {f:Fr} (h:mq l=none) (hb:But (λ_=>False) w wr):sK v w l (.returned (.tuple #[v f,.bool false])) wr:=by
 unfold sK;rw[h];exact⟨⟨f,rfl⟩,hb⟩
theorem Xv (hn:s.size=n+4) (hj:j<4):s.data.toList[n+j]?=some (s[n+j]'(by omega)):=by
 have h:n+j<s.size:=by omega
 rw[bk (by simpa using h)];simp[aX]
theorem Uf:(b8 (C/2^(8*j))).toNat=C/2^(8*j)%256:=by simp[b8]
theorem q9e (hn:s.size=n+4) (hl:(s.extract 0 n).data.toList=s.data.toList.take n) (hC:chk (s.extract 0 n).data.toList=C) (hj:j<4) (h:¬((s[n+j]'(by omega)).toNat:Int)=(C:Int)/2^(8*j)%256):mq s.data.toList=none:=by
 have hz:s.data.toList.length=n+4:=by simpa using hn
 unfold mq;rw[if_neg (by omega),hz,show n+4-4=n by omega,<-hl,hC];rw[if_neg];intro e;have e1:(s.data.toList.drop n)[j]?=(le4 C)[j]?:=by rw[e]
 rw[bJ,Xv hn hj,Ug _ _ hj]at e1;have e2:=congrArg UInt8.toNat (xoi e1);rw[Uf]at e2;apply h;rw[e2];simp
theorem q9d (hn:s.size=n+4) (hp:∀i,i<j->s.data.toList[n+i]?=(le4 C)[i]?) {hj:n+j<s.size} (h:((s[n+j]'hj).toNat:Int)=(C:Int)/2^(8*j)%256):∀i,i<j+1->s.data.toList[n+i]?=(le4 C)[i]?:=λi hi=>by
 rcases cx i j with h1|h1
 ·exact hp i h1
 ·obtain rfl:i=j:=by omega
  rw[Xv hn (by omega),Ug _ _ (by omega)];congr 1;apply UInt8.toNat_inj.1;rw[Uf];have e:((C:Int)/2^(8*i)%256)=((C/2^(8*i)%256:Nat):Int):=by simp
  omega
theorem jdu (hn:s.size=n+4) (hl:(s.extract 0 n).data.toList=s.data.toList.take n) (hC:chk (s.extract 0 n).data.toList=C) (hp:∀i,i<4->s.data.toList[n+i]?=(le4 C)[i]?):mq s.data.toList=parse (s.extract 0 n).data.toList:=by
 have hz:s.data.toList.length=n+4:=by simpa using hn
 unfold mq;rw[if_neg (by omega),hz,show n+4-4=n by omega,<-hl,hC,if_pos];apply List.ext_getElem?;intro i;rw[bJ];rcases cx i 4 with h|h
 ·exact hp i h
 ·rw[bC (by omega),bC (by simpa[le4]using h)]
theorem jdt {L0:Bs} {v:Fr} {r:Bs×Bool} (h1:mq l=parse L0) (h2:frC L0=(v,r)) (hb:But (λ_=>False) w wr):sK frV w l (.returned (.tuple #[frV v,.bool (!r.2&&r.1.isEmpty)])) wr:=by
 have h:=jcn L0;unfold sK;rw[h1];cases hp:parse L0 with
 |none=>
  rw[hp,h2]at h;exact⟨⟨v,by rw[h]⟩,hb⟩
 |some f=>
  rw[hp,h2]at h;simp only[Prod.mk.injEq]at h;obtain⟨rfl,rfl⟩:=h;exact⟨rfl,hb⟩
theorem jdv (s:ByteArray) (hs:s.size<=1073741824):az prog 101 #[.string s] w (sK frV w s.data.toList):=by
 have HW:=Hd (RdW.of w);by_cases h4:s.size<4
 ·have HR:Hid (mq s.data.toList=none):=Hd (by unfold mq;rw[if_pos (by simpa using h4)]);unfold sK;rw[HR.o];have g1:decide ((s.size:Int)-4<0)=true:=xdt (by omega);have hz:(s.size:Int)<4:=by omega
  go_enter func101,ntmps101;go_wp2;obtain⟨r0,r1,r2,r3,r4,fr⟩:=HW.cells;have uD:=HW.lt;refine bh (v:=.tuple #[frV ⟨0,0,0,0,[]⟩,.bool false]) (by simp[results,Tryz.results101,go_sem,frV,sv]) rfl ⟨⟨_,rfl⟩,?_⟩;exact HW.b
 ·obtain⟨n,hn⟩:∃n,s.size=n+4:=⟨s.size-4,by omega⟩
  have g1:decide ((s.size:Int)-4<0)=false:=xdf (by omega);have hz:(s.size:Int)-4=n:=by omega
  have Cq:n<=s.size:=by omega
  have HC:=Hd (Nv (s.extract 0 n).data.toList);have HL:Hid ((s.extract 0 n).data.toList=s.data.toList.take n/\s.data.toList.length=n+4):=Hd ⟨by rw[ext_list];rfl,by simpa using hn⟩;have HN:=Hd hn;clear hn;go_enter func101,ntmps101;go_wp2_with (go_at_call 117;refine(Uw (s.extract 0 n) (by simp;omega)).mono ?_;rintro e w2 ⟨rfl,rfl⟩;obtain⟨C,hC⟩:∃C,chk (s.extract 0 n).data.toList=C:=⟨_,rfl⟩;rw[hC]at HC⊢;replace hC:=Hd hC)
  go_loopw [19] (λi wr=>∃j:Nat,j<=4/\i=.int .i64 j/\Hid (RdW w wr/\∀i,i<j->s.data.toList[n+i]?=(le4 C)[i]?)) (λi _=>4-(intOf i).toNat);case atStart=>exact⟨0,by omega,rfl,Hd ⟨HW.o,λi hi=>by omega⟩⟩
  case round=>
   obtain⟨j,hj,rfl,HJ⟩:=hrel;by_cases qK:j<4
   ·have Mi:n+j<s.size:=by have:=HN.o;omega
    have CB:((n:Int)+j<s.size):=by omega
    have hi3:IntKind.i64.wrap ((n:Int)+j)=n+j:=by rw[IntKind.wrap_i64];omega
    have qL:(0:Int)<=n+j:=by omega
    obtain⟨r0,r1,r2,r3,r4,fr⟩:=HJ.1.cells;have uD:=HJ.1.lt;go_wp2;go_quiet (fail);go_wp2
    ·refine bh (v:=.tuple #[frV ⟨0,0,0,0,[]⟩,.bool false]) (by simp[results,Tryz.results101,go_sem,frV,sv,uD,r0,r1,r2,r3,r4,fr]) rfl ?_;rename_i fA;refine sK.no (q9e HN.o HL.1 hC.out qK (by simpa using fA)) ?_;exact(But.setCell (But.setCell (But.setCell (But.setCell (But.setCell (HJ.1.drewN nq).b' rfl _ _) rfl _ _) rfl _ _) rfl _ _) rfl _ _).fresh
    ·rename_i heq;go_roundw;case rel=>exact⟨j+1,by omega,by go_num,Hd ⟨HJ.1.drewN nq,q9d HN.o HJ.2 (by simpa using heq)⟩⟩
     case measure=>simp[intOf];omega
   ·obtain rfl:j=4:=by omega
    obtain⟨L0,Ew⟩:∃L,(s.extract 0 n).data.toList=L:=⟨_,rfl⟩
    have K0:Hid (lX (wr.alloc (.cells #[.string (s.extract 0 n),.bool false] 212)) wr.heap.size L0 false/\RdW w (wr.alloc (.cells #[.string (s.extract 0 n),.bool false] 212))):=Hd ⟨by unfold lX;rw[aI,qw Ew],HJ.1.below ((jg _ _).alloc (ji _) _)⟩;have eH:=HJ.1.lt;have E0:=Hd Ew;obtain⟨c1,e1⟩:∃c,jJ L0 false=c:=⟨_,rfl⟩
    obtain⟨c2,e2⟩:∃c,jJ c1.2.1 c1.2.2=c:=⟨_,rfl⟩
    obtain⟨c3,e3⟩:∃c,iN 4 true 0 1 c2.2.1 c2.2.2=c:=⟨_,rfl⟩
    obtain⟨c4,e4⟩:∃c,iN 4 true 0 1 c3.2.1 c3.2.2=c:=⟨_,rfl⟩
    obtain⟨c5,e5⟩:∃c,lY c4.2.1 c4.2.2=c:=⟨_,rfl⟩
    obtain⟨ld,gI⟩:=ql c5.1;obtain⟨sr,mG⟩:=ql c5.2.1;have E1:=Hd e1;have E2:=Hd e2;have E3:=Hd e3;have E4:=Hd e4;have E5:=Hd e5;have E6:=Hd gI;have E7:=Hd mG;clear e1 e2 e3 e4 e5 Ew gI mG;go_wp2_with (first
     |(go_at_call 127;refine(GY K0.1).mono ?_;rw[E1.o];rintro e w2 ⟨rfl,h1,h2⟩;have K1:=Hd (ag h1 (K0.2.but eH h2));clear h1 h2)
     |(go_at_call 127;refine(GY K1.1).mono ?_;rw[E2.o];rintro e w3 ⟨rfl,h1,h2⟩;have K2:=Hd (ag h1 (K1.2.but eH h2));clear h1 h2)
     |(go_at_call 128;refine(DK K2.1).mono ?_;rw[E3.o];rintro e w4 ⟨rfl,h1,h2⟩;have K3:=Hd (ag h1 (K2.2.but eH h2));clear h1 h2)
     |(go_at_call 128;refine(DK K3.1).mono ?_;rw[E4.o];rintro e w5 ⟨rfl,h1,h2⟩;have K4:=Hd (ag h1 (K3.2.but eH h2));clear h1 h2)
     |(go_at_call 129;refine(AL K4.1).mono ?_;rw[E5.o,qw E6.o];rintro e w6 ⟨rfl,h1,h2⟩;have K5:=Hd (ag h1 (K4.2.but eH h2));obtain⟨Jq,eX,_⟩:=h1.cells E7.o;obtain⟨r0,r1,r2,r3,r4,fr⟩:=K5.2.cells;clear h1 h2))
    have qI:wrap64 (c2.1.toNat:Int)=(c2.1.toNat:Int):=by have:=wL c2.1;unfold wrap64;omega
    rw[qI];have uD:=K5.2.lt;have clt:wr.heap.size<w6.heap.size:=(zi K5.1).1;have HV:Hid (frC L0=(⟨c1.1.toNat,c2.1.toNat,c3.1,c4.1,c5.1⟩,c5.2)):=Hd (by unfold frC;simp only[E1.o,E2.o,E3.o,E4.o,E5.o]);have HF:∀(b:Bool) (w':ae),(!c5.2.2&&c5.2.1.isEmpty)=b->But (λ_=>False) w w'->sK frV w s.data.toList (.returned (.tuple #[.agg #[.int .u8 c1.1.toNat,.int .i64 c2.1.toNat,.int .i64 c3.1,.int .i64 c4.1,.string ld],.bool b])) w':=λb w' hb h=>by
     rw[<-hb];have:=jdt (jdu HN.o HL.1 hC.out HJ.2) (E0.symm▸HV.o) h;unfold frV at this;rwa [qw E6.o]at this
    have HH:=Hd HF;have HB6:=Hd K5.2.b';clear HF;have SQ:sr.toList.isEmpty=c5.2.1.isEmpty:=by rw[aC,E7.o]
    cases Zw:c5.2.2<;>cases gW:c5.2.1.isEmpty;all_goals
     rw[Zw]at eX;rw[gW]at SQ;go_region;go_wp2;refine bh (v:=.tuple #[.agg #[.int .u8 c1.1.toNat,.int .i64 c2.1.toNat,.int .i64 c3.1,.int .i64 c4.1,.string ld],.bool (!c5.2.2&&c5.2.1.isEmpty)]) (by rw[Zw,gW];simp[results,Tryz.results101,go_sem,uD,r0,r1,r2,r3,r4,fr,clt]) rfl (HH.o _ _ rfl (jds HB6.o _ _ _ _ _ _).drew.fresh)
end
def lU (n:Nat) (k v:Bs):Bool:=jD k&&jk k==n&&decide (v.length<=12)
def BM (n:Nat):Nat->Bs->Bs->Option (List Chg×Bs)
 |0,_,l=>some ([],l)
 |k+1,last,l=>(j6 l).bind λp=>if last.length<p.1 then none else(j5 p.2).bind λt=>(j5 t.2).bind λv=>
   if lU n (last.take p.1++t.1) v.1&&aT last (last.take p.1++t.1)then(BM n k (last.take p.1++t.1) v.2).map λr=>(⟨last.take p.1++t.1,v.1,false⟩::r.1,r.2)else none
def wB (n:Nat):Nat->Bs->Option (List Chg×Bs)
 |0,l=>some ([],l)
 |_+1,[]=>none
 |k+1,b::l=>if b.toNat<1||2<b.toNat then none else(j5 l).bind λt=>(if b.toNat==1 then j5 t.2 else some ([],t.2)).bind λv=>
   if lU n t.1 v.1 then(wB n k v.2).map λr=>(⟨t.1,v.1,b.toNat==2⟩::r.1,r.2)else none
def whole (out:List Chg) (r:List Chg×Bs):Option (List Chg):=if r.2.isEmpty&&!(out++r.1).isEmpty then some (out++r.1)else none
def unblock (n:Nat) (l:Bs):Option (List Chg):=(j6 l).bind λc=>(BM n c.1 [] c.2).bind (whole [])
def xu (n:Nat) (l:Bs):Option (List Chg):=(j6 l).bind λc=>(wB n c.1 c.2).bind (whole [])
theorem F3 (out:List Chg) (c:Chg) (o:Option (List Chg×Bs)):(o.map λr=>(c::r.1,r.2)).bind (whole out)=o.bind (whole (out++[c])):=by
 cases o with
 |none=>rfl
 |some r=>simp[whole]
theorem KG (l:Bs) (k:Nat):aT l (l.take k)=false:=by
 induction l generalizing k with
 |nil=>cases k<;>rfl
 |cons a l ih=>
  cases k with
  |zero=>rfl
  |succ k=>simp[aT,ih]
theorem KW (h:j5 l=none):lY l false=([],[],true):=by
 have h1:=N9 l;rw[h]at h1;simp only at h1;refine Prod.ext ?_ h1;unfold lY takeC at h1⊢;split
 ·rfl
 ·rename_i eH;rw[if_neg eH]at h1;simp only[Prod.mk.injEq]at h1;show List.take _ _=[];have h2:=DN 4 true 0 1 l;cases hn:oh 4 true 0 1 l with
  |none=>rw[hn]at h2;simp only at h2;rw[h2];simp
  |some p=>rw[hn]at h2;simp only at h2;rw[h2]at h1;simp at h1
theorem qwp:lY [] true=([],[],true):=by
 refine Prod.ext ?_ Hz;unfold lY takeC;rw[DW];split<;>simp
theorem Ci {p:Bs×Bs} (h:j5 l=some p):lY l false=(p.1,p.2,false):=by
 have h1:=N9 l;rw[h]at h1;exact h1
theorem UE (h:j6 l=none):(iN 4 true 0 1 l false).2=([],true):=by
 have h1:=DN 4 true 0 1 l;unfold j6 at h;rw[h]at h1;exact h1
theorem FP {p:Nat×Bs} (h:j6 l=some p):iN 4 true 0 1 l false=(p.1,p.2,false):=by
 have h1:=DN 4 true 0 1 l;unfold j6 at h;rw[h]at h1;exact h1
theorem Vm (n:Nat) (v:Bs):lU n [] v=false:=rfl
def qC (n k:Nat) (last l:Bs) (bad:Bool) (out:List Chg):Option (List Chg):=if bad then none else(BM n k last l).bind (whole out)
theorem DZ (l:Bs) (bad:Bool):(lY l bad).1.length<=l.length/\(lY l bad).2.1.length<=l.length:=by
 have h:=FQ 4 true 0 1 l bad;unfold lY takeC;split
 ·exact⟨xzl _,xzl _⟩
 ·simp only[aN,List.length_drop];omega
theorem UF (a m:Nat) (b:UInt8) (l:Bs) (bad:Bool):(iN 4 true a m (b::l) bad).2.1.length<=l.length:=by
 rw[iN];split
 ·exact xzl _
 ·split
  ·exact ji _
  ·exact FQ ..
theorem Hl {v:Bs} (h:lU n k v=true):k.length<=8:=by
 simp only[lU,jD,aH,decide_eq_true_eq]at h;exact h.1.1.2.1
theorem qum (n k:Nat) (last l:Bs) (out:List Chg):
  let c1:=iN 4 true 0 1 l false
  let c2:=lY c1.2.1 c1.2.2
  let c3:=lY c2.2.1 c2.2.2
  let key:=last.take c1.1++c2.1
  (last.length<c1.1->qC n (k+1) last l false out=none)/\((lU n key c3.1&&aT last key)=false->qC n (k+1) last l false out=none)/\
   (¬last.length<c1.1->(lU n key c3.1&&aT last key)=true->qC n (k+1) last l false out=qC n k key c3.2.1 c3.2.2 (out++[⟨key,c3.1,false⟩])/\c3.2.1.length<l.length/\key.length<=8):=by
 simp only[qC,BM,Bool.false_eq_true,if_false];cases h1:j6 l with
 |none=>
  rw[UE h1];refine⟨λ_=>rfl,λ_=>rfl,λ_ hk=>?_⟩;rw[qwp,bA,KG,bY]at hk;cases hk
 |some p=>
  have hp:p.2.length<l.length:=by
   cases l with
   |nil=>simp[j6,oh]at h1
   |cons b l=>
    have:=UF 0 1 b l false;rw[FP h1]at this;exact Nat.lt_succ_of_le this
  have jN:([]:Bs).length<l.length:=bH (xzl _) hp;rw[FP h1];simp only[aA];refine⟨λh=>by rw[if_pos h];rfl,?_⟩;by_cases eH:last.length<p.1
  ·rw[if_pos eH];exact⟨λ_=>rfl,λh=>(h eH).elim⟩
  ·rw[if_neg eH];cases h2:j5 p.2 with
   |none=>
    rw[KW h2];refine⟨λ_=>rfl,λ_ hk=>?_⟩;simp only at hk;rw[bA,KG,bY]at hk;cases hk
   |some t=>
    rw[Ci h2];simp only[aA];cases h3:j5 t.2 with
    |none=>
     rw[KW h3];exact⟨λ_=>rfl,λ_ h=>⟨by simp,jN,Hl (by simp only[aH]at h;exact h.1)⟩⟩
    |some v=>
     rw[Ci h3];simp only[aA];refine⟨λh=>by rw[if_neg (by rw[h];decide)];rfl,λ_ h=>?_⟩;rw[if_pos h,F3];refine⟨by simp,?_,Hl (by simp only[aH]at h;exact h.1)⟩;have a1:=(DZ p.2 false).2;have a2:=(DZ t.2 false).2;rw[Ci h2]at a1;rw[Ci h3]at a2;simp only at a1 a2⊢;omega
section
variable {w:ae}
theorem Fy (n:Nat) (k v:ByteArray) (hk:k.size<=aO):az prog 140 #[.int .i64 n,.string k,.string v] w λe w'=>e=.returned (.bool (lU n k.data.toList v.data.toList))/\aF w.heap.size w w':=by
 have hv:v.data.toList.length=v.size:=by simp
 unfold lU;rw[hv];clear hv;cases mH:jD k.data.toList
 ·have HC:=Hd (O9 k w mH hk);go_enter func140,ntmps140;go_wp2_with (go_at_call 41;refine HC.mono ?_;rintro e w1 ⟨rfl,h1⟩;have H1:=Hd h1;clear h1)
  go_ret;exact⟨rfl,H1.o⟩
 ·have HC:=Hd (GR k w mH);obtain⟨m,hm⟩:∃m,jk k.data.toList=m:=⟨_,rfl⟩
  rw[hm]at HC⊢;go_enter func140,ntmps140;go_wp2_with (go_at_call 41;refine HC.mono ?_;rintro e w1 ⟨rfl,h1⟩;have H1:=Hd h1;clear h1)
  ·rename_i h;go_ret;obtain rfl:m=n:=by omega
   exact⟨by simp;omega,H1.o⟩
  ·rename_i h;go_ret;exact⟨by simp[show¬m=n by omega],H1.o⟩
end
def AA (w:ae) (o:Option (List Chg)) (e:cu) (w':ae):Prop:=(match o with
  |some cs=>∃v,e=.returned (.tuple #[v,.bool true])/\wE w' v cs/\∀b,v.ownBlock=some b->w.heap.size<=b
  |none=>∃v,e=.returned (.tuple #[v,.bool false]))/\But (λ_=>False) w w'
structure UnW (w:ae) (cb:Nat) (l:Bs) (bad:Bool) (v:ai) (out:List Chg) (wr:ae):Prop where
 c:lX wr cb l bad
 r:wr.ownsRow (w.heap.size+1) 87 3 v out.length (x9 out)
 b:But (λ_=>False) w wr
section
variable {w wr w2:ae} {cb:Nat} {l l2:Bs} {bad qD:Bool} {v:ai} {out:List Chg}
theorem UnW.cur (h:UnW w w.heap.size l bad v out wr) (h2:lX w2 w.heap.size l2 qD) (hb:But (· =w.heap.size) wr w2):UnW w w.heap.size l2 qD v out w2:=⟨h2,qi h.r λg hg=>hb.keep g (h.r.lt g hg).2 (by have:=(h.r.lt g hg).1;omega),h.b.top hb λb e=>.inr (by omega)⟩
theorem UnW.below (h:UnW w w.heap.size l bad v out wr) (hb:aF wr.heap.size wr w2):UnW w w.heap.size l bad v out w2:=⟨(hb.block _ (zi h.c).1).trans h.c,qi h.r λg hg=>hb.block g (h.r.lt g hg).2,h.b.trans (But.of_below hb)⟩
theorem UnW.app {v':ai} {o:Obj} (h:UnW w w.heap.size l bad v out wr) (c:Chg) (h1:w1=wr.alloc o) (hg:w1.grownBy w2 v.ownBlock) (hr:w2.ownsRow (w.heap.size+1) 87 3 v' (out.length+1) (x9 out++[sv c.k,sv c.v,.bool c.g])):UnW w w.heap.size l bad v' (out++[c]) w2:=by
 subst h1;have eH:=(zi h.c).1;refine⟨?_,?_,?_⟩
 ·exact(hg.block _ (by simp;omega) λe=>by have:=(h.r.lt _ e.symm).1;omega).trans ((aD wr o eH).trans h.c)
 ·rw[aE];simpa[x9]using hr
 ·refine⟨?_,λb hb _=>?_,?_,?_⟩
  ·have h1:=hg.size;have h2:=h.b.size;simp at h1;omega
  ·exact(hg.block b (by have:=h.b.size;simp;omega) λe=>by have:=(h.r.lt b e.symm).1;omega).trans ((aD wr o (by have:=h.b.size;omega)).trans (h.b.keep b hb id))
  ·rw[hg.os];exact h.b.os
  ·rw[hg.output];exact h.b.output
theorem UnW.fin (h:UnW w w.heap.size l bad v out wr):AA w (if bad then none else whole out ([],l)) (.returned (.tuple #[v,.bool (!bad&&l.isEmpty&&decide (0<out.length))])) wr:=by
 unfold AA whole;refine⟨?_,h.b⟩;cases bad
 ·rw[if_neg (by decide)];cases hl:l.isEmpty
  ·simp only[hl];exact⟨v,rfl⟩
  ·cases ho:out with
   |nil=>exact⟨v,rfl⟩
   |cons c o=>
    simp only[hl,bA,List.isEmpty_cons,Bool.not_false,Bool.and_self,if_true];refine⟨v,by simp,?_,λb hb=>by have:=(h.r.lt b hb).1;omega⟩;rw[<-ho];exact⟨h.r.1,h.r.2.imp id λ⟨g,cap,cur,e,_,r⟩=>⟨g,cap,cur,e,xzl _,r⟩⟩
 ·exact⟨v,rfl⟩
theorem AA.no (hb:But (λ_=>False) w wr):AA w none (.returned (.tuple #[v,.bool false])) wr:=⟨⟨v,rfl⟩,hb⟩
theorem Fq (w:ae) (a b c:ai) (ty:bG):∀(j:Nat) (u:ai),[a,b,c][j]?=some u->(w.alloc (.cells #[a,b,c] ty)).cell? ((⟨w.heap.size,0,none⟩:Addr).add j)=some u:=λj u hj=>by
 rw[Addr.add_lit,bp];match j,hj with
 |0,hj=>simp at hj;subst hj;go_simp
 |1,hj=>simp at hj;subst hj;go_simp
 |2,hj=>simp at hj;subst hj;go_simp
theorem Vf (n:Nat) (l:Bs) (P:Nat->Bs->Option (List Chg×Bs)):((j6 l).bind λc=>(P c.1 c.2).bind (whole []))=if(iN 4 true 0 1 l false).2.2 then none else(P (iN 4 true 0 1 l false).1 (iN 4 true 0 1 l false).2.1).bind (whole []):=by
 cases h1:j6 l with
 |none=>rw[UE h1];rfl
 |some p=>rw[FP h1];rfl
theorem UJ {b t:ByteArray} {l:Bs} {p:Nat} (ht:t.data.toList=l):(b.extract 0 p++t).data.toList=b.data.toList.take p++l:=by
 rw[bB,bF,ext_list,ht];rfl
theorem Vs (k l:ByteArray):(aT l.data.toList k.data.toList=true/\bN k.toList l.toList=false/\(k.toList==l.toList)=false)\/(aT l.data.toList k.data.toList=false/\bN k.toList l.toList=true)\/(aT l.data.toList k.data.toList=false/\bN k.toList l.toList=false/\(k.toList==l.toList)=true):=by
 rw[AJ,aC,aC];rcases Hq k.data.toList l.data.toList with h|h|h
 ·exact .inr (.inl ⟨KR h,h⟩)
 ·rw[h];exact .inr (.inr ⟨D7 _,D7 _,beq_self_eq_true _⟩)
 ·exact .inl ⟨h,KR h,FB h⟩
structure UnR (w:ae) (n:Nat) (s:ByteArray) (k:Nat) (last l:Bs) (bad:Bool) (v:ai) (out:List Chg) (wr:ae):Prop where
 u:UnW w w.heap.size l bad v out wr
 e:unblock n s.data.toList=qC n k last l bad out
 z:bad=false->out.length+l.length<=s.size
 z2:out.length<=s.size
 y:last.length<=8
theorem q0r (n:Nat) (s:ByteArray) (hs:s.size<=268435456):az prog 130 #[.int .i64 n,.string s] w (AA w (unblock n s.data.toList)):=by
 have HU:Hid (UnW w w.heap.size s.data.toList false (.slice none 0 0) [] (w.alloc (.cells #[.string s,.bool false] 212))):=Hd ⟨by unfold lX;rw[aI,pI],aQ _ _ _ _,But.of_below ((jg _ _).alloc (ji _) _)⟩;obtain⟨c0,e0⟩:∃c,iN 4 true 0 1 s.data.toList false=c:=⟨_,rfl⟩
 have E0:=Hd e0;have H0:Hid (unblock n s.data.toList=qC n c0.1 [] c0.2.1 c0.2.2 []):=Hd (by rw[<-e0];exact Vf n _ (λk l=>BM n k [] l));have HZ:Hid (c0.2.1.length<=s.size):=Hd (by rw[<-e0];simpa using FQ 4 true 0 1 s.data.toList false);have vV:c0.1<=268435456:=by have:=Hg 4 true 0 1 s.data.toList false;rw[e0]at this;omega
 have HS:=Hd hs;obtain⟨ci,l1,l2,l3,l4⟩:=NK;have HI:=Hd (ag l1 (ag l2 (ag l3 l4)));clear e0 l1 l2 l3 l4 hs;go_enter func130,ntmps130;go_wp2_with (go_at_call 128;refine(DK HU.c).mono ?_;rw[E0.o];rintro e w2 ⟨rfl,h1,h2⟩;have K0:=Hd (HU.cur h1 h2);clear h1 h2)
 go_loopw [7,8,9] (λo la k wr=>∃(out:List Chg) (sa:Option Addr) (cp:Nat) (lb:ByteArray) (j:Nat) (l:Bs) (bad:Bool),o=.slice sa out.length cp/\la=.string lb/\k=.int .i64 j/\j<=268435456/\Hid (UnR w n s j lb.data.toList l bad (.slice sa out.length cp) out wr)) (λ_ _ k _=>(intOf k).toNat);case atStart=>exact⟨[],none,0,⟨#[]⟩,c0.1,c0.2.1,c0.2.2,rfl,rfl,rfl,vV,Hd ⟨K0.o,H0.o,λ_=>by have:=HZ.o;simpa using this,xzl _,xzl _⟩⟩
 case round=>
  obtain⟨out,sa,cp,lb,j,l,bad,rfl,rfl,rfl,Mg,HR⟩:=hrel;obtain⟨sr,mG⟩:=ql l;obtain⟨Jq,eX,_⟩:=HR.u.c.cells mG;have gW:=congrArg List.isEmpty mG;rw[<-aC]at gW;by_cases hx:j=0\/bad=true
  ·have HF:Hid (AA w (unblock n s.data.toList) (.returned (.tuple #[.slice sa out.length cp,.bool (!bad&&l.isEmpty&&decide (0<out.length))])) wr):=Hd (by
    have:=HR.u.fin;rw[HR.e];unfold qC;cases bad
    ·rcases hx with rfl|h
     ·exact this
     ·cases h
    ·exact this)
   clear mG;cases bad
   ·obtain rfl:j=0:=hx.elim id λh=>by cases h
    cases hl:l.isEmpty;all_goals
     rw[hl]at gW HF;go_wp2;go_ret2;simpa using HF.o
   ·by_cases hj:j=0
    ·subst hj;go_wp2;go_ret2;simpa using HF.o
    ·have Ep:((0:Int)<j):=by omega
     go_wp2;go_ret2;simpa using HF.o
  ·obtain⟨j,rfl⟩:∃q,j=q+1:=⟨j-1,by omega⟩
   obtain rfl:bad=false:=by cases bad;rfl;exact absurd (.inr rfl) hx
   have HB:=qum n j lb.data.toList l out;obtain⟨c1,e1⟩:∃c,iN 4 true 0 1 l false=c:=⟨_,rfl⟩
   rw[e1]at HB;obtain⟨c2,e2⟩:∃c,lY c1.2.1 c1.2.2=c:=⟨_,rfl⟩
   simp only[e2]at HB;obtain⟨c3,e3⟩:∃c,lY c2.2.1 c2.2.2=c:=⟨_,rfl⟩
   simp only[e3]at HB;have Cy:=FQ 4 true 0 1 l false;have lN:=DZ c1.2.1 c1.2.2;rw[e1]at Cy;rw[e2]at lN;obtain⟨tb,ht⟩:=ql c2.1;obtain⟨vb,hv⟩:=ql c3.1;have I4:lb.data.toList.length=lb.size:=by simp
   have mH:=UJ (b:=lb) (p:=c1.1) ht;rw[<-mH,<-hv]at HB;have jV:(lb.extract 0 c1.1++tb).size<=aO:=by
    rw[vQ mH,aE,aN];have:=HR.y;have:=HR.z rfl;have:=HS.o;have:=lN.1;unfold aO;omega
   have E1:=Hd e1;have E2:=Hd e2;have E3:=Hd e3;have HT:=Hd (ag ht hv);have kD:=Hd HB;have HK:=Hd jV;have htz:tb.size<=268435456:=by
    rw[vQ ht];have:=HR.z rfl;have:=HS.o;have:=lN.1;omega
   have Sv:lb.size<=8:=by have:=HR.y;omega
   clear e1 e2 e3 Cy lN ht hv mH jV HB mG gW I4;by_cases hp:lb.size<c1.1
   ·have Qt:decide ((lb.size:Int)<c1.1)=true:=xdt (by omega);go_wp2_with (go_at_call 128;refine(DK HR.u.c).mono ?_;rw[E1.o];rintro e w3 ⟨rfl,h1,h2⟩;have K1:=Hd (HR.u.cur h1 h2);clear h1 h2)
    go_ret2;rw[HR.e,kD.1 (by simpa using hp)];exact .no K1.b
   ·have Qt:decide ((lb.size:Int)<c1.1)=false:=xdf (by omega);have Zd:((c1.1:Int)<=lb.size):=by omega
    have hp4:c1.1<=lb.size:=by omega
    have hxz:(lb.extract 0 c1.1).size=c1.1:=by simp;omega
    go_wp2_with (go_at_call 128;refine(DK HR.u.c).mono ?_;rw[E1.o];rintro e w3 ⟨rfl,h1,h2⟩;have K1:=Hd (HR.u.cur h1 h2);clear h1 h2)
    go_region_with (go_at_call 129;refine(AL (K1.below (w2:=_) (by first|exact jg _ _|exact(jg _ _).drew)).c).mono ?_;rw[E2.o,qw HT.1];rintro e w4 ⟨rfl,h1,h2⟩;have K2:=Hd ((K1.below (by first|exact jg _ _|exact(jg _ _).drew)).cur h1 h2);clear h1 h2)
    obtain⟨kb,mH⟩:∃kb,lb.extract 0 c1.1++tb=kb:=⟨_,rfl⟩
    rw[mH]at kD HK⊢;obtain⟨fb,uP⟩:∃b,lU n kb.data.toList vb.data.toList=b:=⟨_,rfl⟩
    have hle:=Vs kb lb;rw[uP]at kD;have yB:=Hd uP;have JK:¬lb.data.toList.length<c1.1:=by simpa using hp
    have Qu:out.length<=268435456:=by have:=HR.z2;have:=HS.o;omega
    have Rt:=Hd JK;clear mH uP JK;cases fb
    ·have oJ:Hid (unblock n s.data.toList=none):=Hd (by rw[HR.e];exact kD.2.1 rfl);clear hle;go_wp2_with (first
      |(go_at_call 129;refine(AL K2.c).mono ?_;rw[E3.o,qw HT.2];rintro e w5 ⟨rfl,h1,h2⟩;have K3:=Hd (K2.cur h1 h2);clear h1 h2)
      |(go_at_call 140;refine(Fy n kb vb HK.o).mono ?_;rw[yB.o];rintro e w6 ⟨rfl,h1⟩;have K4:=Hd (K3.below h1);clear h1))
     go_ret2;rw[oJ.o];exact .no K4.b
    ·rcases hle with⟨g0,g1,g2⟩|⟨g0,g1⟩|⟨g0,g1,g2⟩
     ·have l7:=Hd (kD.2.2 Rt.o (by rw[g0];rfl));clear g0;go_wp2_with (first
       |(go_at_call 129;refine(AL K2.c).mono ?_;rw[E3.o,qw HT.2];rintro e w5 ⟨rfl,h1,h2⟩;have K3:=Hd (K2.cur h1 h2);clear h1 h2)
       |(go_at_call 140;refine(Fy n kb vb HK.o).mono ?_;rw[yB.o];rintro e w6 ⟨rfl,h1⟩;have K4:=Hd (K3.below h1);clear h1)
       |(at_builtin;(refine bj _ rfl (.tmp 53) (.tmp 58) 130 rfl (w.heap.size+1) 87 ci _ 3 40 underlying130 HI.1 HI.2.1 HI.2.2.1 HI.2.2.2 rfl (by decide) (.slice sa out.length cp) out.length (x9 out) rfl (K4.r.alloc _) ⟨w6.heap.size,0,none⟩ 1 1 [.string kb,.string vb,.bool false] rfl rfl (Fq w6 _ _ _ _) (by intro u hu;simp at hu;rcases hu with rfl|rfl|rfl<;>rfl) (by unfold aO;omega) (by omega) (by have:=(zi K4.c).1;simp;omega) ?_;intro v2 w7 fe gL _;obtain⟨jC,jH,iI⟩:=zq fe;rw[iI]at fe;have K5:=Hd (K4.app ⟨kb.data.toList,vb.data.toList,false⟩ rfl gL (by rw[pI,pI];exact fe));rw[iI];clear fe gL iI)))
      go_roundw;case rel=>exact⟨out++[⟨kb.data.toList,vb.data.toList,false⟩],jC,jH,kb,j,c3.2.1,c3.2.2,by simp,rfl,by go_num,by omega,Hd ⟨by simpa using K5.o,by rw[HR.e];exact l7.1,λ_=>by have:=l7.2.1;have:=HR.z rfl;simp;omega,by have:=l7.2.1;have:=HR.z rfl;simp;omega,l7.2.2⟩⟩
      case measure=>simp[intOf]<;>omega
     ·have oJ:Hid (unblock n s.data.toList=none):=Hd (by rw[HR.e];exact kD.2.1 (by rw[g0];rfl));clear g0;go_wp2_with (first
       |(go_at_call 129;refine(AL K2.c).mono ?_;rw[E3.o,qw HT.2];rintro e w5 ⟨rfl,h1,h2⟩;have K3:=Hd (K2.cur h1 h2);clear h1 h2)
       |(go_at_call 140;refine(Fy n kb vb HK.o).mono ?_;rw[yB.o];rintro e w6 ⟨rfl,h1⟩;have K4:=Hd (K3.below h1);clear h1))
      go_ret2;rw[oJ.o];exact .no K4.b
     ·have oJ:Hid (unblock n s.data.toList=none):=Hd (by rw[HR.e];exact kD.2.1 (by rw[g0];rfl));clear g0;go_wp2_with (first
       |(go_at_call 129;refine(AL K2.c).mono ?_;rw[E3.o,qw HT.2];rintro e w5 ⟨rfl,h1,h2⟩;have K3:=Hd (K2.cur h1 h2);clear h1 h2)
       |(go_at_call 140;refine(Fy n kb vb HK.o).mono ?_;rw[yB.o];rintro e w6 ⟨rfl,h1⟩;have K4:=Hd (K3.below h1);clear h1))
      go_ret2;rw[oJ.o];exact .no K4.b
end
def oL (n k:Nat) (l:Bs) (bad:Bool) (out:List Chg):Option (List Chg):=if bad then none else(wB n k l).bind (whole out)
def LW (b:UInt8) (c:Bs×Bool):Bs×Bs×Bool:=if b.toNat=1 then lY c.1 c.2 else([],c)
theorem qu0 (n k:Nat) (l:Bs) (out:List Chg):
  let c1:=jJ l false
  let c2:=lY c1.2.1 c1.2.2
  let c3:=LW c1.1 c2.2
  (c1.1.toNat<1\/2<c1.1.toNat->oL n (k+1) l false out=none)/\(lU n c2.1 c3.1=false->oL n (k+1) l false out=none)/\
   (¬(c1.1.toNat<1\/2<c1.1.toNat)->lU n c2.1 c3.1=true->oL n (k+1) l false out=oL n k c3.2.1 c3.2.2 (out++[⟨c2.1,c3.1,c1.1.toNat==2⟩])/\c3.2.1.length<l.length):=by
 simp only[show oL n (k+1) l false out=(wB n (k+1) l).bind (whole out)from rfl];cases l with
 |nil=>exact⟨λ_=>rfl,λ_=>rfl,λh=>(h (.inl (by decide))).elim⟩
 |cons b l=>
  simp only[jJ,wB];by_cases hb:b.toNat<1\/2<b.toNat
  ·rw[if_pos (by simpa using hb)];exact⟨λ_=>rfl,λ_=>rfl,λh=>(h hb).elim⟩
  ·rw[if_neg (by simpa using hb)];refine⟨λh=>(hb h).elim,?_⟩;cases h2:j5 l with
   |none=>
    rw[KW h2];refine⟨λ_=>rfl,λ_ h=>?_⟩;rw[show lU n ([],[],true).1 _=false from Vm n _]at h;cases h
   |some t=>
    rw[Ci h2];have a1:=(DZ l false).2;rw[Ci h2]at a1;simp only[aA,LW]at a1⊢;by_cases h1:b.toNat=1
    ·rw[if_pos h1,if_pos (by simpa using h1)];cases h3:j5 t.2 with
     |none=>
      rw[KW h3];exact⟨λ_=>rfl,λ_ h=>⟨rfl,by simp⟩⟩
     |some v=>
      have a2:=(DZ t.2 false).2;rw[Ci h3]at a2⊢;simp only[aA]at a2⊢;refine⟨λh=>by rw[if_neg (by rw[h];decide)];rfl,λ_ h=>?_⟩;rw[if_pos h,F3];exact⟨rfl,by simp;omega⟩
    ·rw[if_neg h1,if_neg (by simpa using h1)];simp only[aA];refine⟨λh=>by rw[if_neg (by rw[h];decide)];rfl,λ_ h=>?_⟩;rw[if_pos h,F3];exact⟨rfl,by simp;omega⟩
structure UdR (w:ae) (n:Nat) (s:ByteArray) (k:Nat) (l:Bs) (bad:Bool) (v:ai) (out:List Chg) (wr:ae):Prop where
 u:UnW w w.heap.size l bad v out wr
 e:xu n s.data.toList=oL n k l bad out
 z:bad=false->out.length+l.length<=s.size
 z2:out.length<=s.size
section
variable {w wr w2:ae} {cb x:Nat} {l l2:Bs} {bad qD:Bool} {v:ai} {out:List Chg}
theorem UnW.but (h:UnW w w.heap.size l bad v out wr) (hb:But (· =x) wr w2) (hx:w.heap.size<x) (hv:v.ownBlock≠some x):UnW w w.heap.size l bad v out w2:=⟨(hb.keep _ (zi h.c).1 (by omega)).trans h.c,qi h.r λg hg=>hb.keep g (h.r.lt g hg).2 (λe=>hv (e▸hg)),h.b.top hb λb e=>.inr (by omega)⟩
def XB (x:Nat) (k v:ByteArray) (g:Bool) (w:ae):Prop:=w.heap[x]?=some (.cells #[.string k,.string v,.bool g] 87 (0,0))
theorem XB.cells {k v:ByteArray} {g:Bool} (h:XB x k v g w):w.cell? ⟨x,0,none⟩=some (.string k)/\w.cell? ⟨x,1,none⟩=some (.string v)/\w.cell? ⟨x,2,none⟩=some (.bool g)/\w.frozen? ⟨x,1,none⟩=false:=by
 unfold XB at h;exact⟨by simp[aa,h],by simp[aa,h],by simp[aa,h],by simp[ax,h]⟩
theorem XB.below {k v:ByteArray} (h:XB x k v g w) (hb:aF w.heap.size w w2):XB x k v g w2:=(hb.block _ (zi h).1).trans h
theorem XB.set {k v v2:ByteArray} (h:XB x k v g w):XB x k v2 g (w.setCell ⟨x,1,none⟩ (.string v2)):=(xhs w x 1 _ _ (.string v2) h).trans rfl
theorem UnW.xb {k:ByteArray} (h:UnW w w.heap.size l bad v out wr) (hn:∀g,v.ownBlock=some g->g<wr.heap.size):UnW w w.heap.size l bad v out (wr.alloc (.cells #[.string k,.string ⟨#[]⟩,.bool g] 87))/\XB wr.heap.size k ⟨#[]⟩ g (wr.alloc (.cells #[.string k,.string ⟨#[]⟩,.bool g] 87))/\w.heap.size<wr.heap.size/\v.ownBlock≠some wr.heap.size:=
 ⟨h.below ((jg _ _).alloc (ji _) _),aI _ _,(zi h.c).1,λe=>Nat.lt_irrefl _ (hn _ e)⟩
theorem UnW.fill {k vb:ByteArray} (h:UnW w w.heap.size l bad v out wr/\XB x k ⟨#[]⟩ g wr) (hx:w.heap.size<x/\v.ownBlock≠some x) (h1:lX w2 w.heap.size l2 qD) (hb:But (· =w.heap.size) wr w2):(UnW w w.heap.size l2 qD v out (w2.setCell ⟨x,1,none⟩ (.string vb))/\XB x k vb g (w2.setCell ⟨x,1,none⟩ (.string vb)))/\XB x k ⟨#[]⟩ g w2:=by
 have hq:XB x k ⟨#[]⟩ g w2:=(hb.keep _ (zi h.2).1 (by omega)).trans h.2;exact⟨⟨(h.1.cur h1 hb).but (But.setCell (B:=(· =x)) (But.refl _ _) rfl _ _) hx.1 hx.2,hq.set⟩,hq⟩
theorem q0s (n:Nat) (s:ByteArray) (hs:s.size<=268435456):az prog 131 #[.int .i64 n,.string s] w (AA w (xu n s.data.toList)):=by
 have HU:Hid (UnW w w.heap.size s.data.toList false (.slice none 0 0) [] (w.alloc (.cells #[.string s,.bool false] 212))):=Hd ⟨by unfold lX;rw[aI,pI],aQ _ _ _ _,But.of_below ((jg _ _).alloc (ji _) _)⟩;obtain⟨c0,e0⟩:∃c,iN 4 true 0 1 s.data.toList false=c:=⟨_,rfl⟩
 have E0:=Hd e0;have H0:Hid (xu n s.data.toList=oL n c0.1 c0.2.1 c0.2.2 []):=Hd (by rw[<-e0];exact Vf n _ (λk l=>wB n k l));have HZ:Hid (c0.2.1.length<=s.size):=Hd (by rw[<-e0];simpa using FQ 4 true 0 1 s.data.toList false);have vV:c0.1<=268435456:=by have:=Hg 4 true 0 1 s.data.toList false;rw[e0]at this;omega
 have HS:=Hd hs;obtain⟨ci,l1,l2,l3,l4⟩:=NK;have HI:=Hd (ag l1 (ag l2 (ag l3 l4)));clear e0 l1 l2 l3 l4 hs;go_enter func131,ntmps131;go_wp2_with (go_at_call 128;refine(DK HU.c).mono ?_;rw[E0.o];rintro e w2 ⟨rfl,h1,h2⟩;have K0:=Hd (HU.cur h1 h2);clear h1 h2)
 go_loopw [7,8] (λo k wr=>∃(out:List Chg) (sa:Option Addr) (cp:Nat) (j:Nat) (l:Bs) (bad:Bool),o=.slice sa out.length cp/\k=.int .i64 j/\j<=268435456/\Hid (UdR w n s j l bad (.slice sa out.length cp) out wr)) (λ_ k _=>(intOf k).toNat);case atStart=>exact⟨[],none,0,c0.1,c0.2.1,c0.2.2,rfl,rfl,vV,Hd ⟨K0.o,H0.o,λ_=>by have:=HZ.o;simpa using this,xzl _⟩⟩
 case round=>
  obtain⟨out,sa,cp,j,l,bad,rfl,rfl,Mg,HR⟩:=hrel;obtain⟨sr,mG⟩:=ql l;obtain⟨Jq,eX,_⟩:=HR.u.c.cells mG;have gW:=congrArg List.isEmpty mG;rw[<-aC]at gW;by_cases hx:j=0\/bad=true
  ·have HF:Hid (AA w (xu n s.data.toList) (.returned (.tuple #[.slice sa out.length cp,.bool (!bad&&l.isEmpty&&decide (0<out.length))])) wr):=Hd (by
    have:=HR.u.fin;rw[HR.e];unfold oL;cases bad
    ·rcases hx with rfl|h
     ·exact this
     ·cases h
    ·exact this)
   clear mG;cases bad
   ·obtain rfl:j=0:=hx.elim id λh=>by cases h
    cases hl:l.isEmpty;all_goals
     rw[hl]at gW HF;go_wp2;go_ret2;simpa using HF.o
   ·by_cases hj:j=0
    ·subst hj;go_wp2;go_ret2;simpa using HF.o
    ·have Ep:((0:Int)<j):=by omega
     go_wp2;go_ret2;simpa using HF.o
  ·obtain⟨j,rfl⟩:∃q,j=q+1:=⟨j-1,by omega⟩
   obtain rfl:bad=false:=by cases bad;rfl;exact absurd (.inr rfl) hx
   have HB:=qu0 n j l out;obtain⟨c1,e1⟩:∃c,jJ l false=c:=⟨_,rfl⟩
   rw[e1]at HB;obtain⟨c2,e2⟩:∃c,lY c1.2.1 c1.2.2=c:=⟨_,rfl⟩
   simp only[e2]at HB;obtain⟨c3,e3⟩:∃c,LW c1.1 c2.2=c:=⟨_,rfl⟩
   simp only[e3]at HB;have Cy:=Vy l false;have lN:=DZ c1.2.1 c1.2.2;rw[e1]at Cy;rw[e2]at lN;obtain⟨kb,hk⟩:=ql c2.1;obtain⟨vb,hv⟩:=ql c3.1;rw[<-hk,<-hv]at HB;have jV:kb.size<=aO:=by
    rw[vQ hk];have:=HR.z rfl;have:=HS.o;have:=lN.1;unfold aO;omega
   obtain⟨b,eZ⟩:∃b,c1.1=b:=⟨_,rfl⟩
   rw[eZ]at HB e3;obtain⟨bn,Jf⟩:∃n,b.toNat=n:=⟨_,rfl⟩
   rw[Jf]at HB;unfold LW at e3;rw[Jf]at e3;have hb256:bn<256:=Jf▸wL b;have E1:=Hd e1;have EB:=Hd (ag eZ Jf);have E2:=Hd e2;have E3:=Hd e3;have HT:=Hd (ag hk hv);have kD:=Hd HB;have HK:=Hd jV;have Qu:out.length<=268435456:=by have:=HR.z2;have:=HS.o;omega
   have HOZ:=Hd (λg (hg:(Value.slice sa out.length cp).ownBlock=some g)=>(HR.u.r.lt g hg).2);clear e1 e2 e3 Cy lN hk hv jV HB mG gW Jq eZ Jf;have HRZ:=HR.z;by_cases hr:bn=1\/bn=2
   ·obtain⟨fb,uP⟩:∃b,lU n kb.data.toList vb.data.toList=b:=⟨_,rfl⟩
    rw[uP]at kD;have yB:=Hd uP;have l7:Hid (if fb then xu n s.data.toList=oL n j c3.2.1 c3.2.2 (out++[⟨kb.data.toList,vb.data.toList,bn==2⟩])/\c3.2.1.length<l.length else xu n s.data.toList=none):=Hd (by
     rw[HR.e];cases fb
     ·exact kD.2.1 rfl
     ·exact kD.2.2 (by omega) rfl)
    clear uP HRZ kD;rcases hr with rfl|rfl;all_goals cases fb
    all_goals
     first
     |(have Bb:vb=⟨#[]⟩:=by
        have h1:=HT.2;have h2:=E3.o;rw[if_neg (by decide)]at h2;rw[<-h2]at h1;cases vb;simp only[ByteArray.mk.injEq];exact Array.toList_inj.1 h1
       subst Bb
       have E4:Hid (c2.2=c3.2):=Hd (by have h2:=E3.o;rw[if_neg (by decide)]at h2;rw[<-h2]))
     |have E4:Hid (lY c2.2.1 c2.2.2=c3):=Hd (by have h2:=E3.o;rwa [if_pos rfl]at h2)
     go_wp2_with (first
      |(go_at_call 127;refine(GY HR.u.c).mono ?_;rw[E1.o,EB.out.1,EB.out.2];rintro e w3 ⟨rfl,h1,h2⟩;have K1:=Hd (HR.u.cur h1 h2);have Z1:=h2.size;clear h1 h2)
      |(go_at_call 129;refine(AL K1.c).mono ?_;rw[E2.o,qw HT.1];rintro e w4 ⟨rfl,h1,h2⟩;have K2:=Hd (λgg=>(K1.cur h1 h2).xb (k:=kb) (g:=gg) λg hg=>xll (HOZ.o g hg) (xlt Z1 h2.size));clear h1 h2)
      |(go_at_call 129;refine(AL (K2.o _).1.c).mono ?_;rw[E4.o,qw HT.2];rintro e w5 ⟨rfl,h1,h2⟩;have K3:=Hd (UnW.fill (vb:=vb) ⟨(K2.o _).1,(K2.o _).2.1⟩ (K2.o false).2.2 h1 h2);obtain⟨x0,x1,x2,x3⟩:=K3.2.cells;clear h1 h2)
      |(go_at_call 140;refine(Fy n kb vb HK.o).mono ?_;rw[yB.o];rintro e w6 ⟨rfl,h1⟩;have K4:=Hd (ag (K3.1.1.below h1) (K3.1.2.below h1));obtain⟨x0,x1,x2,x3⟩:=K4.2.cells;clear h1)
      |(go_at_call 140;refine(Fy n kb ⟨#[]⟩ HK.o).mono ?_;rw[yB.o];rintro e w6 ⟨rfl,h1⟩;have K4:=Hd (ag ((K2.o true).1.below h1) ((K2.o true).2.1.below h1));obtain⟨x0,x1,x2,x3⟩:=K4.2.cells;clear h1)
      |(at_builtin;(refine bj _ rfl (.tmp 58) (.tmp 60) 130 rfl (w.heap.size+1) 87 ci _ 3 40 underlying130 HI.1 HI.2.1 HI.2.2.1 HI.2.2.2 rfl (by decide) (.slice sa out.length cp) out.length (x9 out) rfl (K4.1.r.alloc _) ⟨w6.heap.size,0,none⟩ 1 1 [.string kb,.string vb,.bool false] rfl rfl (Fq w6 _ _ _ _) (by intro u hu;simp at hu;rcases hu with rfl|rfl|rfl<;>rfl) (by unfold aO;omega) (by omega) (by have:=(zi K4.1.c).1;simp;omega) ?_;intro v2 w7 fe gL _;obtain⟨jC,jH,iI⟩:=zq fe;rw[iI]at fe;have K5:=Hd (K4.1.app ⟨kb.data.toList,(vb:ByteArray).data.toList,false⟩ rfl gL (by rw[pI,pI];exact fe));rw[iI];clear fe gL iI))
      |(at_builtin;(refine bj _ rfl (.tmp 58) (.tmp 60) 130 rfl (w.heap.size+1) 87 ci _ 3 40 underlying130 HI.1 HI.2.1 HI.2.2.1 HI.2.2.2 rfl (by decide) (.slice sa out.length cp) out.length (x9 out) rfl (K4.1.r.alloc _) ⟨w6.heap.size,0,none⟩ 1 1 [.string kb,.string ⟨#[]⟩,.bool true] rfl rfl (Fq w6 _ _ _ _) (by intro u hu;simp at hu;rcases hu with rfl|rfl|rfl<;>rfl) (by unfold aO;omega) (by omega) (by have:=(zi K4.1.c).1;simp;omega) ?_;intro v2 w7 fe gL _;obtain⟨jC,jH,iI⟩:=zq fe;rw[iI]at fe;have K5:=Hd (K4.1.app ⟨kb.data.toList,[],true⟩ rfl gL (by rw[pI];exact fe));rw[iI];clear fe gL iI)))
     first
     |(go_ret2
       rw[show xu n s.data.toList=none from l7.o]
       exact .no K4.1.b)
     |(go_roundw
       case rel=>exact⟨out++[_],jC,jH,j,c3.2.1,c3.2.2,by simp,by go_num,by omega,Hd ⟨by first|simpa using K5.o|(rw[<-E4.o];simpa using K5.o),l7.1,λ_=>by have:=l7.2;have:=HR.z rfl;simp;omega,by have:=l7.2;have:=HR.z rfl;simp;omega⟩⟩
       case measure=>simp[intOf]<;>omega)
   ·have oJ:Hid (xu n s.data.toList=none):=Hd (by rw[HR.e];exact kD.1 (by omega));have yw:((bn:Int)==1)=false:=by simp;omega
    clear HRZ kD;go_wp2_with (first
     |(go_at_call 127;refine(GY HR.u.c).mono ?_;rw[E1.o,EB.out.1,EB.out.2];rintro e w3 ⟨rfl,h1,h2⟩;have K1:=Hd (HR.u.cur h1 h2);have Z1:=h2.size;clear h1 h2)
     |(go_at_call 129;refine(AL K1.c).mono ?_;rw[E2.o,qw HT.1];rintro e w4 ⟨rfl,h1,h2⟩;have K2:=Hd (λgg=>(K1.cur h1 h2).xb (k:=kb) (g:=gg) λg hg=>xll (HOZ.o g hg) (xlt Z1 h2.size));clear h1 h2))
    all_goals first
     |(exfalso;omega)
     |(go_ret2
       rw[oJ.o]
       exact .no (K2.o _).1.b)
end
def doL (L:KV) (c:Chg):KV:=if c.g then mr L c.k else nP L c.k c.v
theorem q8k (k v:Bs) (L:KV):(ins k v L).length=L.length+1:=by
 induction L with
 |nil=>rfl
 |cons p L ih=>rw[ins];split<;>simp[ih]
theorem Ur (L:KV) (c:Chg):(doL L c).length<=L.length+1:=by
 unfold doL mr nP;split
 ·exact aK (aP _ _)
 ·rw[q8k];exact aU (aP _ _)
theorem Lm {p:Bs×Bs} (h:j5 l=some p):p.2.length<=l.length:=by
 have:=(DZ l false).2;rwa [Ci h]at this
theorem OQ {p:Nat×Bs} (h:j6 l=some p):p.2.length<l.length:=by
 cases l with
 |nil=>simp[j6,oh]at h
 |cons b l=>
  have:=UF 0 1 b l false;rw[FP h]at this;exact Nat.lt_succ_of_le this
theorem Ux (n:Nat):∀(k:Nat) (last l:Bs) (r:List Chg×Bs),BM n k last l=some r->(∀c∈r.1,lU n c.k c.v=true)/\r.1.length+r.2.length<=l.length
 |0,last,l,r,h=>by cases h;exact⟨by simp,by simp⟩
 |k+1,last,l,r,h=>by
  rw[BM]at h;obtain⟨p,h1,h⟩:=aq.1 h;split at h
  ·cases h
  ·obtain⟨t,h2,h⟩:=aq.1 h;obtain⟨v,h3,h⟩:=aq.1 h;split at h
   ·rename_i hf;obtain⟨q,h4,rfl⟩:=aJ.1 h;obtain⟨a1,a2⟩:=Ux n k _ _ q h4;simp only[aH]at hf;have:=OQ h1;have:=Lm h2;have:=Lm h3;exact⟨λc hc=>by rcases cj.1 hc with rfl|hc;exact hf.1;exact a1 c hc,by simp;omega⟩
   ·cases h
theorem Us (n:Nat):∀(k:Nat) (l:Bs) (r:List Chg×Bs),wB n k l=some r->(∀c∈r.1,lU n c.k c.v=true)/\r.1.length+r.2.length<=l.length
 |0,l,r,h=>by rw[wB]at h;cases h;exact⟨by simp,by simp⟩
 |k+1,[],r,h=>by simp[wB]at h
 |k+1,b::l,r,h=>by
  rw[wB]at h;split at h
  ·cases h
  ·obtain⟨t,h2,h⟩:=aq.1 h;obtain⟨v,h3,h⟩:=aq.1 h;have hv:v.2.length<=t.2.length:=by
    split at h3
    ·exact Lm h3
    ·cases h3;exact ji _
   split at h
   ·rename_i hf;obtain⟨q,h4,rfl⟩:=aJ.1 h;obtain⟨a1,a2⟩:=Us n k _ q h4;have:=Lm h2;exact⟨λc hc=>by rcases cj.1 hc with rfl|hc;exact hf;exact a1 c hc,by simp;omega⟩
   ·cases h
def Ak (kind n:Nat) (l:Bs):Option (List Chg):=if kind=2 then unblock n l else xu n l
theorem NY {kind:Nat} {cs:List Chg} (h:Ak kind n l=some cs):(∀c∈cs,lU n c.k c.v=true)/\cs.length<=l.length:=by
 have key:∀o:Option (List Chg×Bs),(∀r,o=some r->(∀c∈r.1,lU n c.k c.v=true)/\r.1.length+r.2.length<=l.length)->o.bind (whole [])=some cs->(∀c∈cs,lU n c.k c.v=true)/\cs.length<=l.length:=λo ho h=>by
  obtain⟨r,h1,h2⟩:=aq.1 h;unfold whole at h2;split at h2
  ·cases h2;obtain⟨a1,a2⟩:=ho r h1;exact⟨by simpa using a1,by simp;omega⟩
  ·cases h2
 unfold Ak unblock xu at h;split at h;all_goals
  obtain⟨p,h1,h2⟩:=aq.1 h;have h3:=OQ h1;refine key _ (λr hr=>?_) h2
 ·obtain⟨a1,a2⟩:=Ux n _ _ _ r hr;exact⟨a1,by omega⟩
 ·obtain⟨a1,a2⟩:=Us n _ _ r hr;exact⟨a1,by omega⟩
section
variable {w w2:ae} {sb db mb id next:Nat} {done:Bool} {kv:KV}
theorem jP.lt (h:jP w sb db mb id next done kv):sb<w.heap.size/\db<w.heap.size/\mb<w.heap.size:=⟨(zi h.s).1,(zi h.d).1,h.m.lt⟩
theorem jP.idle (h:jP w sb db mb id next done kv) (hb:But (λ_=>False) w w2):jP w2 sb db mb id next done kv:=h.block λb eZ=>hb.keep b (by have:=h.lt;omega) λx=>x
theorem jP.but (h:jP w sb db mb id next done kv) (hb:But (· =mb) w w2) (hm:zk w2 mb L):jP w2 sb db mb id next done L:=⟨(hb.keep _ h.lt.1 (ve h.m h.s)).trans h.s,(hb.keep _ h.lt.2.1 (ve h.m h.d)).trans h.d,hm⟩
theorem jP.cells (h:jP w sb db mb id next done kv):w.cell? ⟨sb,0,none⟩=some (.int .i64 id)/\w.cell? ⟨sb,1,none⟩=some (.int .i64 next)/\w.cell? ⟨sb,2,none⟩=some (.pointer (some ⟨db,0,none⟩))/\w.cell? ⟨sb,3,none⟩=some (.bool done)/\∀j,w.frozen? ⟨sb,j,none⟩=false:=
 ⟨by simp[aa,h.s],by simp[aa,h.s],by simp[aa,h.s],by simp[aa,h.s],λj=>by simp[ax,h.s]⟩
theorem jP.ne (h:jP w sb db mb id next done kv):sb≠db:=λe=>by
 have h1:=h.s;rw[e,h.d]at h1;have e2:=xoi h1;injection e2 with _ e3;exact absurd e3 (by decide)
theorem jcg (hd:w.cell? ⟨db,0,none⟩=some (.map (some mb))) (hm:zk w mb kv) (hL:kv.length<1073741823) (k v:ByteArray) (g:Bool) (hk:k.size<=aO):
  az prog 69 #[.pointer (some ⟨db,0,none⟩),.agg #[.string k,.string v,.bool g]] w (NA w mb (doL kv ⟨k.data.toList,v.data.toList,g⟩)):=by
 cases g
 ·exact GX hd hm hL k v hk
 ·exact NE hd hm k v hk
end
def lu (kd sh:Nat) (ld:Bs) (kv:KV):Bool×KV×Bool:=if kd=4 then(ld.isEmpty,kv,ld.isEmpty)else match Ak kd sh ld with
 |none=>(false,kv,false)
 |some cs=>(true,cs.foldl doL kv,false)
structure TkW (w:ae) (sb db mb id next:Nat) (kv:KV) (v:ai) (cs:List Chg) (j:Nat) (wr:ae):Prop where
 s:jP wr sb db mb id next false ((cs.take j).foldl doL kv)
 r:wE wr v cs
 b:But (· =mb) w wr
def Hr (w:ae) (sb db mb id next:Nat) (r:Bool×KV×Bool) (e:cu) (w':ae):Prop:=e=.returned (.bool r.1)/\jP w' sb db mb id next r.2.2 r.2.1/\But (λb=>b=sb\/b=mb) w w'
theorem OA:∀(L:List Chg) (k:Nat) (c:Chg),L[k]?=some c->(x9 L)[k*3]?=some (sv c.k)/\(x9 L)[k*3+1]?=some (sv c.v)/\(x9 L)[k*3+2]?=some (.bool c.g)
 |[],k,c,h=>by simp at h
 |a::L,0,c,h=>by simp at h;subst h;exact⟨rfl,rfl,rfl⟩
 |a::L,k+1,c,h=>by
  show(sv a.k::sv a.v::Value.bool a.g::x9 L)[(k+1)*3]?=_/\(sv a.k::sv a.v::Value.bool a.g::x9 L)[(k+1)*3+1]?=_/\(sv a.k::sv a.v::Value.bool a.g::x9 L)[(k+1)*3+2]?=_;rw[show(k+1)*3=k*3+1+1+1 by omega];simpa using OA L k c (by simpa using h)
section
variable {w wr w2:ae} {sb db mb id next:Nat} {kv:KV} {v:ai} {cs:List Chg} {j:Nat}
theorem Vl (cs:List Chg) (kv:KV):(cs.foldl doL kv).length<=kv.length+cs.length:=by
 induction cs generalizing kv with
 |nil=>simp
 |cons c cs ih=>
  have h1:=ih (doL kv c);have h2:=Ur kv c;simp only[List.foldl_cons,aj];omega
theorem TkW.below (h:TkW w sb db mb id next kv v cs j wr) (hb:aF wr.heap.size wr w2):TkW w sb db mb id next kv v cs j w2:=⟨h.s.idle (But.of_below hb),h.r.block λg hg=>hb.block g (World.ownsRow.lt h.r g hg).2,h.b.trans (But.of_below hb)⟩
theorem TkW.succ {c:Chg} (h:TkW w sb db mb id next kv v cs j wr) (hc:cs[j]?=some c) (hb:But (· =mb) wr w2) (hm:zk w2 mb (doL ((cs.take j).foldl doL kv) c)):TkW w sb db mb id next kv v cs (j+1) w2:=by
 obtain⟨hj,rfl⟩:=aB.1 hc;have e:(cs.take (j+1)).foldl doL kv=doL ((cs.take j).foldl doL kv) cs[j]:=by rw[List.take_succ_eq_append_getElem hj,List.foldl_append];rfl
 refine⟨by rw[e];exact h.s.but hb hm,h.r.block λg hg=>hb.keep g (World.ownsRow.lt h.r g hg).2 ?_,h.b.trans hb⟩;obtain⟨cur,EP⟩:=jm h.r hg;exact ve h.s.m EP
theorem TkW.cells {c:Chg} {sa:Option Addr} {n cp:Nat} (h:TkW w sb db mb id next kv (.slice sa n cp) cs j wr) (hc:cs[j]?=some c):n=cs.length/\∃g,sa=some ⟨g,0,none⟩/\wr.cell? ⟨g,j*3,none⟩=some (sv c.k)/\wr.cell? ⟨g,j*3+1,none⟩=some (sv c.v)/\wr.cell? ⟨g,j*3+2,none⟩=some (.bool c.g):=by
 obtain⟨hj,_⟩:=aB.1 hc;have hr:=h.r;unfold wE at hr;rcases hr.2 with⟨hv,hz⟩|⟨g,cap,cur,hv,_⟩
 ·omega
 ·injection hv with h1 h2 h3;subst h1 h2 h3;obtain⟨q1,q2,q3⟩:=OA cs j c hc;have d:=λi u hi=>hr.cells (g:=g) rfl i u hi;have d1:=d _ _ q1;have d2:=d _ _ q2;have d3:=d _ _ q3;rw[Addr.add_lit,bp]at d1 d2 d3;exact⟨rfl,g,rfl,d1,d2,d3⟩
theorem jP.fin {done:Bool} (h:jP w sb db mb id next done kv) (b:Bool):jP (w.setCell ⟨sb,3,none⟩ (.bool b)) sb db mb id next b kv/\But (λq=>q=sb\/q=mb) w (w.setCell ⟨sb,3,none⟩ (.bool b)):=by
 refine⟨⟨(xhs w sb 3 _ _ (.bool b) h.s).trans rfl,(xho w _ _ _ h.ne.symm).trans h.d,h.m.block (xho w _ _ _ λe=>ve h.m h.s e.symm)⟩,But.setCell (But.refl _ _) (.inl rfl) _ _⟩
theorem jey (h:jP w sb db mb id next false kv) (kd sh fi fn:Nat) (ld:ByteArray) (tH:kd=2\/kd=3\/kd=4) (hl:ld.size<=268435456) (iF:kv.length<=268435456):
  az prog 103 #[.pointer (some ⟨sb,0,none⟩),.agg #[.int .u8 kd,.int .i64 sh,.int .i64 fi,.int .i64 fn,.string ld]] w (Hr w sb db mb id next (lu kd sh ld.data.toList kv)):=by
 by_cases h4:kd=4
 ·subst h4;have gW:ld.toList.isEmpty=ld.data.toList.isEmpty:=by rw[aC]
  obtain⟨a0,a1,a2,a3,af⟩:=h.cells;have eH:=h.lt.1;unfold Hr lu;rw[if_pos rfl];have HS:=Hd (λb=>h.fin b);clear h;cases he:ld.data.toList.isEmpty;all_goals
   rw[he]at gW;go_enter func103,ntmps103;go_wp2;go_ret;exact⟨rfl,(HS.o _).1.idle (But.of_below ((jg _ _).alloc (ji _) _)),(HS.o _).2.trans (But.of_below ((jg _ _).alloc (ji _) _))⟩
 ·have HH:=Hd h;obtain⟨f,hf⟩:∃f,Ak kd sh ld.data.toList=f:=⟨_,rfl⟩
  have HC:∀w1:ae,az prog (if kd=2 then 130 else 131) #[.int .i64 sh,.string ld] w1 (AA w1 f):=λw1=>by
   rw[<-hf];unfold Ak;split
   ·exact q0r sh ld hl
   ·exact q0s sh ld hl
  have HO:∀cs,f=some cs->(∀c∈cs,lU sh c.k c.v=true)/\cs.length<=268435456:=λcs e=>by
   obtain⟨a1,a2⟩:=NY (hf.trans e);exact⟨a1,xlt a2 (by simpa using hl)⟩
  have CQ:=Hd HO;unfold Hr lu;rw[if_neg h4,hf];have Bw:=Hd HC;clear h hf HC HO;rcases tH with rfl|rfl|rfl
  rotate_right
  ·exact absurd rfl h4
  all_goals
   first|rw[if_pos rfl]at Bw|rw[if_neg (by decide)]at Bw
   cases f with
   |none=>
    go_enter func103,ntmps103;go_wp2_with ((first|go_at_call 130|go_at_call 131);refine(Bw.o _).mono ?_;rintro e w1 ⟨⟨v,rfl⟩,h1⟩;have K1:=Hd (HH.idle (But.trans (But.of_below ((jg _ _).alloc (ji _) _)) h1));have B1:=Hd h1;clear h1)
    go_ret;exact⟨rfl,K1.o,(But.of_below ((jg _ _).alloc (ji _) _)).trans (B1.mono λ_ x=>x.elim)⟩
   |some cs=>
    go_enter func103,ntmps103;go_wp2_with ((first|go_at_call 130|go_at_call 131);refine(Bw.o _).mono ?_;rintro e w1 ⟨⟨v,rfl,r1,_⟩,h1⟩;obtain⟨sa,cp,hv⟩:=zq r1;rw[hv]at r1⊢;have K1:Hid (TkW w sb db mb id next kv (.slice sa cs.length cp) cs 0 w1):=Hd ⟨HH.idle (But.trans (But.of_below ((jg _ _).alloc (ji _) _)) h1),r1,(But.of_below ((jg _ _).alloc (ji _) _)).trans (h1.mono λ_ x=>x.elim)⟩;clear h1 r1 hv)
    go_loopw [46] (λi wr=>∃j:Nat,j<=cs.length/\i=.int .i64 j/\Hid (TkW w sb db mb id next kv (.slice sa cs.length cp) cs j wr)) (λi _=>cs.length-(intOf i).toNat);case atStart=>exact⟨0,xzl _,rfl,K1⟩
    case round=>
     obtain⟨j,hj,rfl,HK⟩:=hrel;have oG:cs.length<=268435456:=(CQ.o cs rfl).2;by_cases kR:j<cs.length
     ·obtain⟨c,hc⟩:∃c,cs[j]?=some c:=⟨_,bk kR⟩
      obtain⟨_,g,rfl,d1,d2,d3⟩:=HK.cells hc;obtain⟨kb,mH⟩:=ql c.k;obtain⟨vb,Bb⟩:=ql c.v;rw[qw mH]at d1;rw[qw Bb]at d2;have HP:=Hd (HK.below ((jg wr.heap.size wr).alloc (ji _) (.cells #[.string kb,.string vb,.bool c.g] 87)));have HD:∀w1,aF (wr.alloc (.cells #[.string kb,.string vb,.bool c.g] 87)).heap.size (wr.alloc (.cells #[.string kb,.string vb,.bool c.g] 87)) w1->az prog 69 #[.pointer (some ⟨db,0,none⟩),.agg #[.string kb,.string vb,.bool c.g]] w1 λe w'=>e=.returned (.tuple #[])/\TkW w sb db mb id next kv (.slice (some ⟨g,0,none⟩) cs.length cp) cs (j+1) w':=λw1 hb=>by
       have hp:=HP.below hb;have hf:=Vl (cs.take j) kv;rw[aN]at hf;have hkf:=Hl ((CQ.o cs rfl).1 c (aL hc));refine(jcg (by simp[aa,hp.s.d]) hp.s.m (by omega) kb vb c.g (by rw[vQ mH];unfold aO;omega)).mono λe w' ⟨e1,e2,e3⟩=>⟨e1,hp.succ hc e3 ?_⟩
       rw[mH,Bb]at e2;exact e2
      have JC:=Hd HD;obtain⟨_,_,b2,_,_⟩:=HP.s.cells;clear HD hc mH Bb;go_wp2;have x0:(wr.alloc (.cells #[.string kb,.string vb,.bool c.g] 87)).cell? ⟨wr.heap.size,0,none⟩=some (.string kb):=by go_simp
      have x1:(wr.alloc (.cells #[.string kb,.string vb,.bool c.g] 87)).cell? ⟨wr.heap.size,1,none⟩=some (.string vb):=by go_simp
      have x2:(wr.alloc (.cells #[.string kb,.string vb,.bool c.g] 87)).cell? ⟨wr.heap.size,2,none⟩=some (.bool c.g):=by go_simp
      obtain⟨wa,IE⟩:∃wa,wr.alloc (.cells #[.string kb,.string vb,.bool c.g] 87)=wa:=⟨_,rfl⟩
      rw[IE]at JC b2 x0 x1 x2⊢;clear IE d1 d2 d3;go_region_with (go_at_call 69;refine(JC.o _ (by first|exact jg _ _|exact(jg _ _).drew)).mono ?_;rintro e w2 ⟨rfl,h2⟩;have H2:=Hd h2;clear h2)
      all_goals
       go_wp2;go_roundw;case rel=>exact⟨j+1,by omega,by go_num,H2⟩
       case measure=>simp[intOf]<;>omega
     ·obtain rfl:j=cs.length:=by omega
      have HE:Hid (jP wr sb db mb id next false (cs.foldl doL kv)):=Hd (by have:=HK.s;rwa [bP]at this);go_wp2;go_ret;exact⟨rfl,HE.o,HK.b.mono λ_ x=>.inr x⟩
end
section
variable {w w':ae} {F F':Nat->Prop} {A:PA} {s:St} {n h k:Nat}
theorem But.drewN (h:But B w w') (n:Nat):But B w (w'.drewN n):=⟨h.size,h.keep,h.os,h.output⟩
theorem yc.idle (p:yc w F A s) (hb:But (λ_=>False) w w'):yc w' F A s:=(p.lts.frame λb gK=>hb.keep b gK.2 λx=>x).mono λ_ h=>h.1
theorem yc.Db {sP':Nat->Nat->Nat×Nat×Nat} {sg':Nat->Nat->Option Sg} (p:yc w F A s) (hb:But B w w') (hF:∀b,F b->F' b)
  (hB:∀b,B b->b<w.heap.size->(∃cur,w.heap[b]?=some (aW cur 157 (0,0)))\/b=A.sm\/∃x y,x<4/\y<4/\(s.sg x y).isSome=true/\b=(A.sP x y).2.2) (hs:sF w' F' {A with sP:=sP'} sg'):yc w' F' {A with sP:=sP'} {s with sg:=sg'}:=by
 have lt:∀{b:Nat} {o:Obj},w.heap[b]?=some o->b<w.heap.size:=λhb=>(zi hb).1;have iK:∀(b:Nat) (cur:Array ai) (ty:bG),w.heap[b]?=some (aW cur ty (0,0))->ty≠157->w'.heap[b]?=w.heap[b]?:=λb cur ty eZ n1=>hb.keep b (lt eZ) λe=>by
  rcases hB b e (lt eZ)with⟨c,e2⟩|e2|⟨x,y,hx,hy,hz,e2⟩
  ·rw[e2]at eZ;exact n1 (yg eZ).symm
  ·exact p.yu.m.ty eZ e2
  ·obtain⟨v,hv⟩:=aM.1 hz;exact ve (p.yu.e x y v hx hy hv).2.m eZ e2
 have zH:∀i,i<4->w'.heap[A.mb i]?=w.heap[A.mb i]?:=λi hi=>hb.keep _ (p.mb i hi).2.lt λe=>by
  rcases hB _ e (p.mb i hi).2.lt with⟨c,e2⟩|e2|⟨x,y,hx,hy,hz,e2⟩
  ·exact ve (p.mb i hi).2 e2 rfl
  ·exact p.smb i hi e2
  ·exact(p.yu.n x y hx hy hz).2 i hi e2
 refine⟨⟨hF _ p.cl.1,(iK _ _ _ p.cl.2 (by decide)).trans p.cl.2⟩,λi hi=>⟨hF _ (p.db i hi).1,(iK _ _ _ (p.db i hi).2 (by decide)).trans (p.db i hi).2⟩,λi hi=>⟨hF _ (p.mb i hi).1,(p.mb i hi).2.block (zH i hi)⟩,p.mbi,λi hi=>?_,p.mpi,p.cvi,hs,p.smb⟩;exact(((p.mv i hi).keep (λb c _ hb=>iK b c _ hb (by decide)) (λb c _ hb=>iK b c _ hb (by decide)) (λb c _ hb=>iK b c _ hb (by decide))).mono hF).same rfl rfl rfl rfl
theorem yc.jee {sb db mb next:Nat} {kv:KV} (p:yc w1 F A s) (hh:h<4) (hk:k<4) (hb:But (· =A.sm) w1 w') (hm:mY w' A.sm (yh (λh k=>(s.sg h k).map λ_=>(A.sP h k).1) h k (some sb)))
  (hs:jP w' sb db mb id next false kv) (iT:w.heap.size<=sb/\w.heap.size<=db/\w.heap.size<=mb) (hold:∀b,F b->b<w.heap.size) (fC:w.heap.size<=w1.heap.size):yc w' (λb=>F b\/w.heap.size<=b) {A with sP:=λa b=>if a=h/\b=k then(sb,db,mb)else A.sP a b} {s with sg:=yh s.sg h k (some ⟨id,next,kv,false⟩)}:=by
 have old:∀a b x,a<4->b<4->s.sg a b=some x->(A.sP a b).1<w.heap.size/\(A.sP a b).2.2<w.heap.size:=λa b x ha hb hx=>⟨hold _ (p.yu.e a b x ha hb hx).1.1,hold _ (p.yu.e a b x ha hb hx).1.2.2⟩
 have olds:∀a b,a<4->b<4->(s.sg a b).isSome=true->(A.sP a b).1<w.heap.size/\(A.sP a b).2.2<w.heap.size:=λa b ha hb hz=>by
  obtain⟨v,hv⟩:=aM.1 hz;exact old a b v ha hb hv
 have keep:∀b,F b->b≠A.sm->w'.heap[b]?=w1.heap[b]?:=λb hf fA=>hb.keep b (xll (hold b hf) fC) fA;refine p.Db hb (λ_ h=>.inl h) (λb e _=>.inr (.inl e)) ⟨.inl p.yu.f,?_,λa b x ha hb hx=>?_,λa b c d ha hb hc hd h1 h2 h3=>?_,λa b ha hb hz=>?_⟩
 ·have e:(λa b=>(yh s.sg h k (some ⟨id,next,kv,false⟩) a b).map λ_=>(if a=h/\b=k then(sb,db,mb)else A.sP a b).1)=yh (λh k=>(s.sg h k).map λ_=>(A.sP h k).1) h k (some sb):=by
   funext a b;unfold yh;by_cases e:a=h/\b=k
   ·simp only[if_pos e];rfl
   ·simp only[if_neg e]
  show mY w' A.sm (λa b=>(yh s.sg h k (some ⟨id,next,kv,false⟩) a b).map λ_=>(if a=h/\b=k then(sb,db,mb)else A.sP a b).1);rw[e];exact hm
 ·replace hx:yh s.sg h k (some ⟨id,next,kv,false⟩) a b=some x:=hx;by_cases e:a=h/\b=k
  ·obtain⟨rfl,rfl⟩:=e;rw[sM]at hx;cases hx;show(_/\_/\_)/\jP w' (if a=a/\b=b then(sb,db,mb)else A.sP a b).1 (if a=a/\b=b then(sb,db,mb)else A.sP a b).2.1 (if a=a/\b=b then(sb,db,mb)else A.sP a b).2.2 _ _ _ _;simp only[and_self,if_true];exact⟨⟨.inr iT.1,.inr iT.2.1,.inr iT.2.2⟩,hs⟩
  ·rw[vg e]at hx;obtain⟨⟨h1,h2,h3⟩,h4⟩:=p.yu.e a b x ha hb hx;show(_/\_/\_)/\jP w' (if a=h/\b=k then(sb,db,mb)else A.sP a b).1 (if a=h/\b=k then(sb,db,mb)else A.sP a b).2.1 (if a=h/\b=k then(sb,db,mb)else A.sP a b).2.2 _ _ _ _;simp only[if_neg e];exact⟨⟨.inl h1,.inl h2,.inl h3⟩,h4.block λq hq=>keep q (by rcases hq with rfl|rfl|rfl<;>assumption) (by
    rcases hq with rfl|rfl|rfl
    ·exact p.yu.m.ty h4.s
    ·exact p.yu.m.ty h4.d
    ·exact λe2=>(p.yu.n a b ha hb (by rw[hx];rfl)).1 e2.symm)⟩
 ·replace h1:(yh s.sg h k (some ⟨id,next,kv,false⟩) a b).isSome=true:=h1;replace h2:(yh s.sg h k (some ⟨id,next,kv,false⟩) c d).isSome=true:=h2;replace h3:(if a=h/\b=k then(sb,db,mb)else A.sP a b).1=(if c=h/\d=k then(sb,db,mb)else A.sP c d).1\/(if a=h/\b=k then(sb,db,mb)else A.sP a b).2.2=(if c=h/\d=k then(sb,db,mb)else A.sP c d).2.2:=h3;by_cases e1:a=h/\b=k
  ·by_cases e2:c=h/\d=k
   ·omega
   ·rw[vg e2]at h2;have:=olds c d hc hd h2;simp only[if_pos e1,if_neg e2]at h3;omega
  ·rw[vg e1]at h1;by_cases e2:c=h/\d=k
   ·have:=olds a b ha hb h1;simp only[if_pos e2,if_neg e1]at h3;omega
   ·rw[vg e2]at h2;simp only[if_neg e2,if_neg e1]at h3;exact p.yu.i a b c d ha hb hc hd h1 h2 h3
 ·replace hz:(yh s.sg h k (some ⟨id,next,kv,false⟩) a b).isSome=true:=hz;show A.sm≠(if a=h/\b=k then(sb,db,mb)else A.sP a b).2.2/\∀i,i<4->A.mb i≠(if a=h/\b=k then(sb,db,mb)else A.sP a b).2.2;by_cases e:a=h/\b=k
  ·simp only[if_pos e];have h1:=hold _ p.yu.f;exact⟨by omega,λi hi=>by have:=hold _ (p.mb i hi).1;omega⟩
  ·simp only[if_neg e];rw[vg e]at hz;exact p.yu.n a b ha hb hz
theorem yc.jef {x:Sg} {next:Nat} {done:Bool} {kv:KV} (p:yc w F A s) (hh:h<4) (hk:k<4) (hx:s.sg h k=some x) (hb:But (λb=>b=(A.sP h k).1\/b=(A.sP h k).2.2) w w') (hs:jP w' (A.sP h k).1 (A.sP h k).2.1 (A.sP h k).2.2 id next done kv):
  yc w' F A {s with sg:=yh s.sg h k (some ⟨id,next,kv,done⟩)}/\But F w w':=by
 have hX:=p.yu.e h k x hh hk hx;have hz:(s.sg h k).isSome=true:=by rw[hx];rfl
 have Qg:∀a b,(yh s.sg h k (some ⟨id,next,kv,done⟩) a b).isSome=(s.sg a b).isSome:=λa b=>by
  by_cases e:a=h/\b=k
  ·obtain⟨rfl,rfl⟩:=e;rw[sM,hz];rfl
  ·rw[vg e]
 refine⟨p.Db (sP':=A.sP) hb (λ_ h=>h) (λb e _=>e.elim (λe=>.inl ⟨_,e▸hX.2.s⟩) λe=>.inr (.inr ⟨h,k,hh,hk,hz,e⟩)) ⟨p.yu.f,?_,λa b y ha gK hy=>?_,λa b c d ha hb hc hd h1 h2 h3=>p.yu.i a b c d ha hb hc hd (by rwa [Qg]at h1) (by rwa [Qg]at h2) h3,λa b ha hb hz=>p.yu.n a b ha hb (by rwa [Qg]at hz)⟩,hb.mono λb e=>e.elim (λe=>e▸hX.1.1) λe=>e▸hX.1.2.2⟩
 ·have e:(λa b=>(yh s.sg h k (some ⟨id,next,kv,done⟩) a b).map λ_=>(A.sP a b).1)=λa b=>(s.sg a b).map λ_=>(A.sP a b).1:=by
   funext a b;by_cases e:a=h/\b=k
   ·obtain⟨rfl,rfl⟩:=e;rw[sM,hx];rfl
   ·rw[vg e]
  show mY w' A.sm λa b=>(yh s.sg h k (some ⟨id,next,kv,done⟩) a b).map λ_=>(A.sP a b).1;rw[e];refine p.yu.m.block (hb.keep _ p.yu.m.lt λe=>?_);rcases e with e|e
  ·exact p.yu.m.ty hX.2.s e.symm
  ·exact(p.yu.n h k hh hk hz).1 e
 ·by_cases e:a=h/\b=k
  ·obtain⟨rfl,rfl⟩:=e;replace hy:yh s.sg a b (some ⟨id,next,kv,done⟩) a b=some y:=hy;rw[sM]at hy;cases hy;exact⟨hX.1,hs⟩
  ·replace hy:yh s.sg h k (some ⟨id,next,kv,done⟩) a b=some y:=hy;rw[vg e]at hy;obtain⟨h1,h4⟩:=p.yu.e a b y ha gK hy;have Cq:(s.sg a b).isSome=true:=by rw[hy];rfl
   refine⟨h1,h4.block λq hq=>hb.keep q ?_ ?_⟩
   ·rcases hq with rfl|rfl|rfl
    ·exact(zi h4.s).1
    ·exact(zi h4.d).1
    ·exact h4.m.lt
   ·rcases hq with rfl|rfl|rfl
    ·rintro(e2|e2)
     ·exact e (p.yu.i a b h k ha gK hh hk Cq hz (.inl e2))
     ·exact ve hX.2.m h4.s e2
    ·rintro(e2|e2)
     ·have h5:=h4.d;rw[e2,hX.2.s]at h5;exact absurd (yg h5) (by decide)
     ·exact ve hX.2.m h4.d e2
    ·rintro(e2|e2)
     ·exact ve h4.m hX.2.s e2.symm
     ·exact e (p.yu.i a b h k ha gK hh hk Cq hz (.inr e2))
end
namespace Ph
open Go.Conc Go.ConcN Go.RowKit Go.Maps Go.Conc.Lib Go Sim
theorem rX.idleB {F:Nat->Prop} {A:PA} {s:St} {v:ai} (h:yc w F A s) (hb:But (λ_=>False) w w'):rX w F A v s (.returned v) w':=⟨rfl,A,rfl,(h.idle hb).mono λ_ h=>.inl h,hb.mono λ_ x=>x.elim⟩
def jR (f:Fr) (k:Nat):Bs:=Fr.bytes ⟨k,f.qc,f.id,f.n,[]⟩
theorem q12 (kd:Int) (sh id n k:Nat) (ld:ByteArray) (hk:k<256) (kG:sh<256) (hid:id<9223372036854775808) (hn:n<9223372036854775808):
  az prog 102 #[.agg #[.int .u8 kd,.int .i64 sh,.int .i64 id,.int .i64 n,.string ld],.int .u8 k] w λe w'=>e=.returned (sv (Fr.bytes ⟨k,sh,id,n,[]⟩))/\But (λ_=>False) w w':=by
 have HB:=Hd (λw=>U8 (w:=w) k sh id n ⟨#[]⟩ hk kG hid hn (by decide));have e1:sv (Fr.bytes ⟨k,sh,id,n,[]⟩)=.string (frB k sh id n ⟨#[]⟩):=rfl;rw[e1];clear e1;generalize frB k sh id n ⟨#[]⟩=fb at*;go_enter func102,ntmps102;go_wp2_with (go_at_call 75;refine(HB.o _).mono ?_;rintro e w2 ⟨rfl,h2⟩;have H2:=Hd h2;clear h2)
 go_ret;exact⟨rfl,But.of_below (((jg _ _).alloc (ji _) _).trans (H2.mono (by simp)))⟩
def dlF (f:Fr) (o:Option Sg):Bs×Option Sg:=
 if f.kind=1 then
  if f.n≠0\/f.load≠[]\/(∃x,o=some x/\f.id<x.id)then([],o)
  else(jR f 5,match o with
   |none=>some ⟨f.id,1,[],false⟩
   |some x=>if x.id<f.id then some ⟨f.id,1,[],false⟩else some x)
 else match o with
  |none=>(jR f 6,none)
  |some x=>if x.id<f.id then(jR f 6,some x)else if f.id<x.id then([],some x)else if x.next<f.n then(jR f 6,some x)
   else if f.n<x.next then(jR f 5,some x)else if x.done then([],some x)
   else if(lu f.kind f.qc f.load x.kv).1 then(jR f 5,some ⟨x.id,x.next+1,(lu f.kind f.qc f.load x.kv).2.1,(lu f.kind f.qc f.load x.kv).2.2⟩)else([],some x)
def yS (f:Fr):Bool:=decide (f.qc<4)&&decide (1<=f.kind)&&decide (f.kind<=4)
def dlE (s:St) (h:Int):Int:=if h<0\/s.hosts<=h then 1 else 0
def dlR (s:St) (h:Int) (u:Bs):Bs×St:=if h<0\/s.hosts<=h then([],s)else match mq u with
 |none=>([],s)
 |some f=>if yS f then((dlF f (s.sg h.toNat f.qc)).1,{s with sg:=yh s.sg h.toNat f.qc (dlF f (s.sg h.toNat f.qc)).2})else([],s)
theorem K7 {α:Type} {f:Nat->Nat->Option α} {k:Nat} {o:Option α} (e:f h k=o):yh f h k o=f:=by
 funext a b;by_cases e2:a=h/\b=k
 ·obtain⟨rfl,rfl⟩:=e2;rw[sM,e]
 ·rw[vg e2]
theorem Np {f:Fr} (h:ld.data.toList=f.load):frV f=.agg #[.int .u8 f.kind,.int .i64 f.qc,.int .i64 f.id,.int .i64 f.n,.string ld]:=by unfold frV;rw[qw h]
section
variable {w w':ae} {F:Nat->Prop} {A:PA} {s:St}
structure DvW (w0:ae) (F:Nat->Prop) (A:PA) (s:St) (h:Nat) (f:Fr) (fb pb:Nat) (w:ae):Prop where
 p:yc w F A s
 b:But (λ_=>False) w0 w
 fr:w.heap[fb]?=some (.cells #[.int .u8 f.kind,.int .i64 f.qc,.int .i64 f.id,.int .i64 f.n,sv f.load] 133 (0,0))
 q:w.heap[pb]?=some (.cells #[.int .i64 h,.int .i64 f.qc] 154 (0,0))
theorem DvW.drewN {fb:Nat} {f:Fr} (d:DvW w0 F A s h f fb pb w) (n:Nat):DvW w0 F A s h f fb pb (w.drewN n):=⟨d.p.idle (But.drewN (But.refl _ _) n),d.b.drewN n,d.fr,d.q⟩
theorem DvW.of {f:Fr} (p:yc w0 F A s) (hb:But (λ_=>False) w0 w) (gI:ld.data.toList=f.load):DvW w0 F A s h f w.heap.size (w.heap.size+1) ((w.alloc (.cells #[.int .u8 f.kind,.int .i64 f.qc,.int .i64 f.id,.int .i64 f.n,.string ld] 133)).alloc (.cells #[.int .i64 h,.int .i64 f.qc] 154)):=by
 have gq:=hb.trans (But.of_below (B:=λ_=>False) (((jg w.heap.size w).alloc (ji _) (.cells #[.int .u8 f.kind,.int .i64 f.qc,.int .i64 f.id,.int .i64 f.n,.string ld] 133)).alloc (by simp) (.cells #[.int .i64 h,.int .i64 f.qc] 154)));exact⟨p.idle gq,gq,by rw[aD _ _ (by simp),aI,qw gI],heap_alloc_new' _ _ (by simp)⟩
theorem DvW.cells {w0:ae} {h fb pb:Nat} {f:Fr} {ld:ByteArray} (d:DvW w0 F A s h f fb pb w) (gI:ld.data.toList=f.load):w.cell? ⟨fb,0,none⟩=some (.int .u8 f.kind)/\w.cell? ⟨fb,1,none⟩=some (.int .i64 f.qc)/\w.cell? ⟨fb,2,none⟩=some (.int .i64 f.id)/\w.cell? ⟨fb,3,none⟩=some (.int .i64 f.n)/\w.cell? ⟨fb,4,none⟩=some (.string ld)/\w.cell? ⟨pb,0,none⟩=some (.int .i64 h)/\w.cell? ⟨pb,1,none⟩=some (.int .i64 f.qc)/\w.cell? ⟨A.cl,13,none⟩=some (.map (some A.sm)):=by
 have h1:=d.fr;rw[qw gI]at h1;exact⟨by simp[aa,h1],by simp[aa,h1],by simp[aa,h1],by simp[aa,h1],by simp[aa,h1],by simp[aa,d.q],by simp[aa,d.q],(d.p.cells 13 _ rfl).1⟩
theorem yc.look {k:Nat} (p:yc w F A s) (hh:h<4) (hk:k<4):(Instr.lookup 76 (.map (some A.sm)) (.agg #[.int .i64 h,.int .i64 k]) false).run prog w=.ok (ptr ((s.sg h k).map λ_=>(A.sP h k).1)) w:=p.yu.m.look hh hk
theorem jb3 (f:Fr) (hf:f.Ok) (k:Nat) (hk:k<256) (ld:ByteArray) (W:ae):az prog 102 #[.agg #[.int .u8 f.kind,.int .i64 f.qc,.int .i64 f.id,.int .i64 f.n,.string ld],.int .u8 k] W λe w'=>e=.returned (sv (jR f k))/\But (λ_=>False) W w':=
 q12 f.kind f.qc f.id f.n k ld hk hf.qc (by have:=hf.id;omega) (by have:=hf.n;omega)
theorem DvW.same {fb:Nat} {f:Fr} {v:ai} {b:Bs} (d:DvW w0 F A s h f fb pb w) (p0:yc w0 F A s) (hb:But (λ_=>False) w w2) (e:dlF f (s.sg h f.qc)=(b,s.sg h f.qc)) (hv:v=.tuple #[sv b,.int .i64 0]):
  rX w0 F A (.tuple #[sv (dlF f (s.sg h f.qc)).1,.int .i64 0]) {s with sg:=yh s.sg h f.qc (dlF f (s.sg h f.qc)).2} (.returned v) w2:=by
 rw[e,hv];simp only[K7 rfl];exact .idleB p0 (d.b.trans hb)
theorem DvW.stage {fb:Nat} {f:Fr} (d:DvW w0 F A s h f fb pb w) (p0:yc w0 F A s) (hh:h<4) (hs:f.qc<4) (e:w2=Dc w.drew) (gI:ld.data.toList=f.load):∃w9,(Instr.mapUpdate 76 (.map (some A.sm)) (.agg #[.int .i64 h,.int .i64 f.qc]) (.pointer (some ⟨w2.heap.size,0,none⟩))).run prog (w2.alloc (.cells #[.int .i64 f.id,.int .i64 1,.pointer (some ⟨w.heap.size+1,0,none⟩),.bool false] 157))=.ok () w9/\
  Hid ((∃A',A'.cl=A.cl/\yc w9 (λb=>F b\/w0.heap.size<=b) A' {s with sg:=yh s.sg h f.qc (some ⟨f.id,1,[],false⟩)})/\But F w0 w9)/\w9.cell? ⟨fb,0,none⟩=some (.int .u8 f.kind)/\w9.cell? ⟨fb,1,none⟩=some (.int .i64 f.qc)/\w9.cell? ⟨fb,2,none⟩=some (.int .i64 f.id)/\w9.cell? ⟨fb,3,none⟩=some (.int .i64 f.n)/\w9.cell? ⟨fb,4,none⟩=some (.string ld)/\w2.cell? ⟨fb,2,none⟩=some (.int .i64 f.id)/\w2.cell? ⟨pb,0,none⟩=some (.int .i64 h)/\w2.cell? ⟨pb,1,none⟩=some (.int .i64 f.qc)/\w2.cell? ⟨A.cl,13,none⟩=some (.map (some A.sm))/\fb<w2.heap.size/\pb<w2.heap.size/\A.cl<w2.heap.size:=by
 have b1:aF w.heap.size w w2:=by rw[e];exact((jg _ _).drew.alloc (ji _) _).alloc (by simp) _
 have Cq:w2.heap.size=w.heap.size+2:=by rw[e];simp[Dc]
 have m2:w2.heap[w.heap.size]?=some (.map #[] 0):=by rw[e];unfold Dc;rw[aD _ _ (by simp)];exact heap_alloc_new' _ _ rfl
 have c2:w2.heap[w.heap.size+1]?=some (.cells #[.map (some w.heap.size)] 142 (0,0)):=by rw[e];exact heap_alloc_new' _ _ (by simp)
 obtain⟨w3,h3⟩:∃w3,w2.alloc (.cells #[.int .i64 f.id,.int .i64 1,.pointer (some ⟨w.heap.size+1,0,none⟩),.bool false] 157)=w3:=⟨_,rfl⟩
 have b2:aF w.heap.size w w3:=by rw[<-h3];exact b1.alloc b1.size _
 have s3:w3.heap[w2.heap.size]?=some (.cells #[.int .i64 f.id,.int .i64 1,.pointer (some ⟨w.heap.size+1,0,none⟩),.bool false] 157 (0,0)):=by rw[<-h3];exact aI _ _
 have m3:w3.heap[w.heap.size]?=some (.map #[] 0):=by rw[<-h3,aD _ _ (by omega)];exact m2
 have c3:w3.heap[w.heap.size+1]?=some (.cells #[.map (some w.heap.size)] 142 (0,0)):=by rw[<-h3,aD _ _ (by omega)];exact c2
 rw[h3];have bt:But (λ_=>False) w0 w3:=d.b.trans (But.of_below b2);have p3:yc w3 (λb=>F b/\b<w0.heap.size) A s:=p0.lts.idle bt;obtain⟨w9,fu,hm,hb⟩:=p3.yu.m.put hh hs w2.heap.size;have hsm:A.sm<w0.heap.size:=p3.yu.f.2;have hz:w0.heap.size<=w.heap.size:=d.b.size;have kp:∀b,b<w3.heap.size->b≠A.sm->w9.heap[b]?=w3.heap[b]?:=λb h1 h2=>hb.keep b h1 h2;have LU:∀{b:Nat} {o:Obj},w3.heap[b]?=some o->b<w3.heap.size:=λhb=>(zi hb).1;have f9:w9.heap[fb]?=some (.cells #[.int .u8 f.kind,.int .i64 f.qc,.int .i64 f.id,.int .i64 f.n,.string ld] 133 (0,0)):=by
  have h1:=(b2.block fb (zi d.fr).1).trans d.fr;rw[qw gI]at h1;exact(kp fb (LU h1) (p3.yu.m.ty h1)).trans h1
 refine⟨w9,fu,Hd ⟨⟨_,by rfl,(p3.jee (w:=w0) (id:=f.id) (next:=1) (kv:=[]) (sb:=w2.heap.size) (db:=w.heap.size+1) (mb:=w.heap.size) hh hs hb hm ⟨(kp _ (LU s3) (by omega)).trans s3,(kp _ (LU c3) (by omega)).trans c3,Vo ((kp _ (LU m3) (by omega)).trans m3)⟩ ⟨by omega,by omega,hz⟩ (λb h=>h.2) bt.size).mono λb h=>h.imp (·.1) id⟩,(bt.mono λ_ x=>x.elim).trans (hb.mono λb e=>e▸p3.yu.f.1)⟩,by simp[aa,f9],by simp[aa,f9],by simp[aa,f9],by simp[aa,f9],by simp[aa,f9],?_⟩;obtain⟨_,_,x2,_,_,y0,y1,z0⟩:=d.cells gI;have cc:=λ(a:Addr) (v:ai) (hv:w.cell? a=some v)=>(b1.cell (xbl w a hv)).trans hv;have l1:=(zi d.fr).1;have l2:=(zi d.q).1;have l3:=d.p.clt;exact⟨cc _ _ x2,cc _ _ y0,cc _ _ y1,cc _ _ z0,by omega,by omega,by omega⟩
theorem Nl (y:Nat->ai):lay 168 y=#[y 0,y 1,y 2,y 3,y 4,y 5,y 6,y 7,y 8,y 9,y 10,y 11,y 12,y 13,y 14,y 15,y 16,y 17,y 18,y 19,y 20,y 21,y 22,y 23,y 24,y 25,y 26,y 27,y 28,y 29,y 30,y 31,y 32,y 33,y 34,y 35,y 36,y 37,y 38,y 39,y 40,y 41,y 42,y 43,y 44,y 45,y 46,y 47,y 48,y 49,y 50,y 51,y 52,y 53,y 54,y 55,y 56,y 57,y 58,y 59,y 60,y 61,y 62,y 63,y 64,y 65,y 66,y 67,y 68,y 69,y 70,y 71,y 72,y 73,y 74,y 75,y 76,y 77,y 78,y 79,y 80,y 81,y 82,y 83,y 84,y 85,y 86,y 87,y 88,y 89,y 90,y 91,y 92,y 93,y 94,y 95,y 96,y 97,y 98,y 99,y 100,y 101,y 102,y 103,y 104,y 105,y 106,y 107,y 108,y 109,y 110,y 111,y 112,y 113,y 114,y 115,y 116,y 117,y 118,y 119,y 120,y 121,y 122,y 123,y 124,y 125,y 126,y 127,y 128,y 129,y 130,y 131,y 132,y 133,y 134,y 135,y 136,y 137,y 138,y 139,y 140,y 141,y 142,y 143,y 144,y 145,y 146,y 147,y 148,y 149,y 150,y 151,y 152,y 153,y 154,y 155,y 156,y 157,y 158,y 159,y 160,y 161,y 162,y 163,y 164,y 165,y 166,y 167]:=rfl
theorem jiq {K:Act->ae->Prop} {w:ae} (h:t.size=n) (g:K ⟨lay n λj=>t.getD j aw,[]⟩ w):K ⟨t,[]⟩ w:=by
 have e:lay n (λj=>t.getD j aw)=t:=by
  apply cn
  ·simp[lay,h]
  ·intro i h1 h2;simp[lay,aG,h2]
 rwa [e]at g
noncomputable def Im:Array Oper:=match Tryz.f63.body with
 |some (.seq _ (.seq _ (.seq _ (.seq _ (.seq _ (.seq _ (.seq (.seq _ (.cond _ (.seq _ (.seq (.seq _ (.cond _ a _)) _)) _)) _)))))))=>rg a
 |_=>#[]
theorem jch {fb:Nat} {f:Fr} {x:Nat->ai} {K K1:Act->ae->Prop} {PP:cu->ae->Prop} (d:DvW w0 F A s h f fb pb w) (p0:yc w0 F A s) (hh:h<4) (hs:f.qc<4) (gI:ld.data.toList=f.load) (x0:x 0=.pointer (some ⟨A.cl,0,none⟩)) (x8:x 8=.pointer (some ⟨fb,0,none⟩)) (CZ:x 10=.pointer (some ⟨pb,0,none⟩))
  (done:∀(y:Nat->ai) (w9:ae),y 8=.pointer (some ⟨fb,0,none⟩)->Hid ((∃A',A'.cl=A.cl/\yc w9 (λb=>F b\/w0.heap.size<=b) A' {s with sg:=yh s.sg h f.qc (some ⟨f.id,1,[],false⟩)})/\But F w0 w9)->w9.cell? ⟨fb,0,none⟩=some (.int .u8 f.kind)->w9.cell? ⟨fb,1,none⟩=some (.int .i64 f.qc)->w9.cell? ⟨fb,2,none⟩=some (.int .i64 f.id)->w9.cell? ⟨fb,3,none⟩=some (.int .i64 f.n)->w9.cell? ⟨fb,4,none⟩=some (.string ld)->K ⟨lay 168 y,[]⟩ w9):
  ay prog (au 12 Im true) (Exit.then K (Exit.then K1 (bodyPost prog Tryz.f63 PP))) ⟨lay 168 x,[]⟩ w:=by
 obtain⟨k0,k1,k2,k3,k4,q0,q1,m0⟩:=d.cells gI;have D:=Hd d;have P:=Hd p0;have HH:=Hd hh;have HS:=Hd hs;have HL:=Hd gI;have HD:=Hd done;clear d p0 hh hs gI done;obtain⟨x,rfl⟩:=qp x0;obtain⟨x,rfl⟩:=qp (x:=x) (j:=8) (v:=.pointer (some ⟨fb,0,none⟩)) x8;obtain⟨x,rfl⟩:=qp (x:=x) (j:=10) (v:=.pointer (some ⟨pb,0,none⟩)) CZ;clear x0 x8 CZ;rw[Nl];unfold Im;simp only[Tryz.f63,rg,upd,ac,if_true,if_false];go_region_with (first|(go_at_call 39;refine Vd.mono ?_;rintro e w2 ⟨rfl,h2⟩;obtain⟨w9,fu,H9,z0,z1,z2,z3,z4,y2,yz0,yz1,y13,l1,l2,l3⟩:=D.stage P.out HH.o HS.o h2 HL.o;clear h2))
 all_goals exact jiq rfl (HD.o _ _ rfl H9 z0 z1 z2 z3 z4)
end
end Ph
end Go.Proofs.YtkpekiajdlolnabGreat
