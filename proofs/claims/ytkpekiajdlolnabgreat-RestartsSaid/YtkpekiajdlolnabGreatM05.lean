/- PROVED: part 5 of the claim's ground. Conditions: those that each theorem names. -/
import Derived.Test.YtkpekiajdlolnabGreatM04
import Derived.Deep.RegionWith
import Derived.Carry
import Derived.Deep.AppendLies
import Derived.Deep.RegionLaw
import Derived.Test.YtkpekiajdlolnabGreatM03
import Derived.Laws.BitsAllLaws
import Derived.Lib.Hide
import Derived.Laws.IdiomStrings
import Derived.Deep.RegionHeld3
set_option linter.unusedVariables false
set_option linter.unusedSimpArgs false
set_option maxRecDepth 100000
set_option maxHeartbeats 16000000
variable{K:Go.Act->Go.World->Prop} {N b cl g hh i j m n x:Nat} {Q:Go.Exit->Go.Act->Go.World->Prop} {X:Go.Proofs.YtkpekiajdlolnabGreat.KV} {a:Go.Act} {db mb:Nat->Nat} {e:Go.Operand->Go.Value} {k:ByteArray} {l s:List UInt8} {o:Go.Oper} {p:Go.Operand} {pv u v3:Go.Value} {t:Array Go.Value} {to:Int} {ty:Go.TypeId} {w w' w1 w2 w3 wA:Go.World} {xs:List Go.Value}
open Go.Proofs.Tryz
open Go renaming World→aa,Value→ac,execOp→ae,heap_alloc_old→am,Calls→az,ownsRow_setCell_other→aD,getD_set_ne→aN,run_convert_bytes_back→aQ,undef→aR,wp_region_still_tail→aW,heap_alloc_new→bh,Operand→bp,TypeId→bA,maxLen→bB,ofInt_u64→bN,mem_ready→bO,Ending→cg,wpStill_nil→cn,wpList_append_own→cA
open And renaming intro→ag
open Go.World renaming cell?→ah,frozen?→ay,ownsRow_nil→aH,frozen?_of_block→bX
open Go.RowKit renaming Below→ai
open List renaming getD_eq_getElem?_getD→aj,length_append→al,getElem?_eq_some_iff→aw,all_eq_true→aC,pairwise_iff_getElem→aE,mem_of_getElem?→aG,range→aJ,getElem?_append_right→aU,mem_range→aV,getElem?_append_left→aX,take_succ_cons→aY,drop_succ_cons→aZ,mem_singleton→bg,take_succ_eq_append_getElem→bj,take_append_drop→bq,getElem_mem→bz,take_zero→bG,drop_zero→bH,getElem?_eq_getElem→bK,take_of_length_le→bR,mem_append→bY,getElem?_eq_none→ce,append_assoc→cy,getElem?_map→cB,length_cons→cC,any_eq_true→cE,length_set→cG,map_cons→cT,map_nil→dc
open Go.Code renaming region→ak,wp→co
open Array renaming getElem?_eq_none→ao,getElem?_push→aK,getElem?_toList→aS,all_eq_true_iff_forall_mem→bk,getElem?_eq_getElem→bJ,replicate→cH,ext'→cM,getD→cN,ext→cY
open Nat renaming mod_two_eq_zero_or_one→aq,xor_lt_two_pow→aP,zero_add→bE,pow_succ→bQ,pow_le_pow_right→cj,lt_of_le_of_lt→cu,reduceEqDiff→cF,lt_or_ge→cZ
open Go.Region renaming ready→au,binds→bm,wanted→cU
open Bool renaming and_eq_true→ax
open Int renaming toNat_natCast→aA,lt_or_le→bD,tmod_eq_emod_of_nonneg→bF
open Option renaming map_eq_some_iff→aB,bind_some→aM,isNone_iff_eq_none→bI,getD_some→bP,map_some→bZ,getD→di
open Go.Obj renaming cells→aF
open Go.RowKit.Below renaming drew→aI
open Go.World.ownsRow renaming lt→aL
open Go.Addr renaming add_lit→aO
open ByteArray renaming size_append→aT,data_append→bw
open BitVec renaming ofInt→bi
open Go.IntKind renaming wrap_u8'→bC,wrap_i64→bL
open Go.Act renaming mk→bV
namespace Go.Proofs.YtkpekiajdlolnabGreat
section
open Go.RowKit Go.Maps
structure Cst where
 A:PA
 B:MA
 F:Nat->Prop
 G:Nat->Prop
 s:St
 t:St
def Cst.own (c:Cst) (b:Nat):Prop:=c.F b\/c.G b
structure nR (n0:Nat) (w:aa) (c:Cst):Prop where
 p:yc w c.F c.A c.s
 m:yx w c.G c.B c.t
 lo:∀b,c.own b->n0<=b/\b<w.heap.size
 fg:∀b,c.F b->¬c.G b
def Apart (c d:Cst):Prop:= ∀b,c.own b->¬d.own b
theorem Apart.symm {c d:Cst} (h:Apart c d):Apart d c:=λb h1 h2=>h b h2 h1
def qB (cs:List Cst):List ac:=cs.flatMap λc=>[.pointer (some ⟨c.A.cl,0,none⟩),.pointer (some ⟨c.B.ml,0,none⟩)]
theorem qtm (a b:List Cst):qB (a++b)=qB a++qB b:=List.flatMap_append
theorem UY:∀(cs:List Cst) (k:Nat) (c:Cst),cs[k]?=some c->(qB cs)[k*2]?=some (.pointer (some ⟨c.A.cl,0,none⟩))/\(qB cs)[k*2+1]?=some (.pointer (some ⟨c.B.ml,0,none⟩))
 |[],k,p,h=>by simp at h
 |q::L,0,p,h=>by simp at h;subst h;exact⟨rfl,rfl⟩
 |q::L,k+1,p,h=>by
  show((.pointer (some ⟨q.A.cl,0,none⟩):ac)::.pointer (some ⟨q.B.ml,0,none⟩)::qB L)[(k+1)*2]?=_/\((.pointer (some ⟨q.A.cl,0,none⟩):ac)::.pointer (some ⟨q.B.ml,0,none⟩)::qB L)[(k+1)*2+1]?=_;rw[show(k+1)*2=k*2+1+1 by omega];simpa using UY L k p (by simpa using h)
theorem qz2 (cs:List Cst) (k:Nat) (c d:Cst) (h:cs[k]?=some c) (e1:d.A.cl=c.A.cl) (e2:d.B.ml=c.B.ml):qB (cs.set k d)=qB cs:=by
 induction cs generalizing k with
 |nil=>rfl
 |cons q L ih=>
  cases k with
  |zero=>simp at h;subst h;simp[qB,e1,e2]
  |succ k=>simp only[List.set_cons_succ];show _::_::qB (L.set k d)=_::_::qB L;rw[ih k (by simpa using h)]
def BQ (W:Nat) (CS:wZ) (S:ac) (b:Nat):Prop:=b=W\/CS.cs.ownBlock=some b\/CS.bs.ownBlock=some b\/S.ownBlock=some b
structure uE (n0:Nat) (w:aa) (W:Nat) (n:Nat) (cs:List Cst) (CS:wZ) (S:ac) (m:Nat) (bs:List Bs):Prop where
 ls:lJ n0 w W CS S m
 cr:w.ownsRow n0 56 2 CS.cs cs.length (qB cs)
 br:w.ownsRow n0 9 1 CS.bs bs.length (bs.map sv)
 le:m<=n/\bs.length<=n/\∀b∈bs,b.length<=32
 out:CS.out=λb=>∃c∈cs,c.own b
 off:∀b,BQ W CS S b->¬CS.out b
structure j4 (n0:Nat) (w:aa) (W:Nat) (n:Nat) (cs:List Cst):Prop where
 lo:n0<=W
 b:∃CS S m bs,uE n0 w W n cs CS S m bs
 each:∀c∈cs,nR n0 w c
 apart:cs.Pairwise Apart
section
variable {n0:Nat} {w w':aa} {W n k m:Nat} {cs:List Cst} {c d:Cst} {CS:wZ} {S:ac} {bs:List Bs}
theorem nR.frame (h:nR n0 w c) (k:∀b,c.own b->w'.heap[b]?=w.heap[b]?) (hs:w.heap.size<=w'.heap.size):nR n0 w' c:=
 ⟨h.p.frame λb hb=>k b (.inl hb),h.m.frame λb hb=>k b (.inr hb),λb hb=>⟨(h.lo b hb).1,xll (h.lo b hb).2 hs⟩,h.fg⟩
theorem nR.but {B:Nat->Prop} (h:nR n0 w c) (hb:But B w w') (hn:∀b,c.own b->¬B b):nR n0 w' c:=h.frame (λb eZ=>hb.keep b (h.lo b eZ).2 (hn b eZ)) hb.size
theorem nR.idle (h:nR n0 w c) (hb:But (λ_=>False) w w'):nR n0 w' c:=h.but hb λ_ _=>id
theorem nR.prog {A':PA} {s':St} (h:nR n0 w c) (hn:n0<=w.heap.size) (hb:But c.F w w') (hp:yc w' (λb=>c.F b\/w.heap.size<=b) A' s'):
  nR n0 w' {c with A:=A',F:=λb=>(c.F b\/w.heap.size<=b)/\b<w'.heap.size,s:=s'}:=by
 refine⟨hp.lts,h.m.frame λb hg=>hb.keep b (h.lo b (.inr hg)).2 λhf=>h.fg b hf hg,λb eZ=>?_,λb hf hg=>?_⟩
 ·rcases eZ with⟨h1|h1,h2⟩|h1
  ·exact⟨(h.lo b (.inl h1)).1,h2⟩
  ·exact⟨by omega,h2⟩
  ·exact⟨(h.lo b (.inr h1)).1,xll (h.lo b (.inr h1)).2 hb.size⟩
 ·rcases hf with⟨h1|h1,h2⟩
  ·exact h.fg b h1 hg
  ·have:=(h.lo b (.inr hg)).2;omega
theorem nR.doc {B':MA} {t':St} (h:nR n0 w c) (hn:n0<=w.heap.size) (hb:But c.G w w') (hp:yx w' (λb=>c.G b\/w.heap.size<=b) B' t'):
  nR n0 w' {c with B:=B',G:=λb=>(c.G b\/w.heap.size<=b)/\b<w'.heap.size,t:=t'}:=by
 refine⟨h.p.frame λb hf=>hb.keep b (h.lo b (.inl hf)).2 (h.fg b hf),hp.lts,λb eZ=>?_,λb hf hg=>?_⟩
 ·rcases eZ with h1|⟨h1|h1,h2⟩
  ·exact⟨(h.lo b (.inl h1)).1,xll (h.lo b (.inl h1)).2 hb.size⟩
  ·exact⟨(h.lo b (.inr h1)).1,h2⟩
  ·exact⟨by omega,h2⟩
 ·rcases hg with⟨h1|h1,h2⟩
  ·exact h.fg b hf h1
  ·have:=(h.lo b (.inl hf)).2;omega
theorem j4.two (h:j4 n0 w W n cs) (hc:cs[i]?=some c) (hd:cs[j]?=some d) (I8:i≠j):Apart c d:=by
 obtain⟨hi,rfl⟩:=aw.1 hc;obtain⟨hj,rfl⟩:=aw.1 hd;rcases cZ i j with h1|h1
 ·exact aE.1 h.apart i j hi hj h1
 ·exact(aE.1 h.apart j i hj hi (by omega)).symm
theorem uE.lt (h:uE n0 w W n cs CS S m bs) (hb:BQ W CS S b):b<w.heap.size:=by
 obtain⟨xs,h6⟩:=h.ls.row;rcases hb with e|e|e|e
 ·subst e;exact h.ls.cell.2.2
 ·exact(h.cr.lt b e).2
 ·exact(h.br.lt b e).2
 ·exact(h6.lt b e).2
theorem uE.GZ (h:uE n0 w W n cs CS S m bs) (hg:mD w S g):g<w.heap.size:=by
 obtain⟨_,hz⟩:=h.ls.KF hg;exact(zi hz).1
theorem lJ.avoid {O:Nat->Prop} (h:lJ n0 w W CS S m) (ho:∀g,mD w S g->¬O g):lJ n0 w W {CS with out:=O} S m:=⟨h.b,h.row,h.kept,ho⟩
theorem j4.turn (h:j4 n0 w W n cs) (hk:cs[k]?=some c) {B:Nat->Prop} (hb:But B w w') (hB:∀b,B b->c.own b) (hd:nR n0 w' d) (e1:d.A.cl=c.A.cl) (e2:d.B.ml=c.B.ml) (gH:∀b,d.own b->c.own b\/w.heap.size<=b):j4 n0 w' W n (cs.set k d):=by
 obtain⟨CS,S,m,bs,hw⟩:=h.b;have hm:=aG hk;have kH:=h.each c hm;have Ii:∀b,BQ W CS S b->w'.heap[b]?=w.heap[b]?:=λb eZ=>hb.keep b (hw.lt eZ) λe=>hw.off b eZ (by rw[hw.out];exact⟨c,hm,hB b e⟩);have jik:∀b,mD w S b->w'.heap[b]?=w.heap[b]?:=λb eZ=>hb.keep b (hw.GZ eZ) λe=>hw.ls.out b eZ (by rw[hw.out];exact⟨c,hm,hB b e⟩);have Mf:lJ n0 w' W CS S m:=hw.ls.block (Ii W (.inl rfl)) (λg hg=>Ii g (.inr (.inr (.inr hg)))) jik;have iW:∀b,(∃x∈cs.set k d,x.own b)->(∃x∈cs,x.own b)\/w.heap.size<=b:=λb ⟨x,hx,zJ⟩=>by
  rcases List.mem_or_eq_of_mem_set hx with hx|hx
  ·exact .inl ⟨x,hx,zJ⟩
  ·subst hx;exact(gH b zJ).imp (λh=>⟨c,hm,h⟩) id
 refine⟨h.lo,⟨{CS with out:=λb=>∃x∈cs.set k d,x.own b},S,m,bs,⟨Mf.avoid λg hg ho=>?_,?_,qi hw.br λg hg=>Ii g (.inr (.inr (.inl hg))),hw.le,rfl,λb eZ ho=>?_⟩⟩,λx hx=>?_,?_⟩
 ·have fO:mD w S g:=by unfold mD at hg⊢;rw[Ec λq hq=>Ii q (.inr (.inr (.inr hq)))]at hg;exact hg
  rcases iW g ho with h1|h1
  ·exact hw.ls.out g fO (by rw[hw.out];exact h1)
  ·have:=hw.GZ fO;omega
 ·rw[qz2 cs k c d hk e1 e2,cG];exact qi hw.cr λg hg=>Ii g (.inr (.inl hg))
 ·have eZ:BQ W CS S b:=eZ;rcases iW b ho with h1|h1
  ·exact hw.off b eZ (by rw[hw.out];exact h1)
  ·have:=hw.lt eZ;omega
 ·obtain⟨j,hj⟩:=List.mem_iff_getElem?.1 hx;by_cases e:j=k
  ·subst e;rw[List.getElem?_set_self (aw.1 hk).1]at hj;cases hj;exact hd
  ·rw[List.getElem?_set_ne (λx=>e x.symm)]at hj;exact(h.each x (aG hj)).but hb λb zJ eZ=>h.two hk hj (λx=>e x.symm) b (hB b eZ) zJ
 ·have key:∀x∈cs,Apart c x->Apart d x:=λx hx ha b xV zJ=>by
   rcases gH b xV with h1|h1
   ·exact ha b h1 zJ
   ·have:=((h.each x hx).lo b zJ).2;omega
  rw[aE];intro i j hi hj I8;simp only[cG]at hi hj;have ha:=aE.1 h.apart i j hi hj I8;rw[List.getElem_set,List.getElem_set];have Gp:cs[k]'(aw.1 hk).1=c:=(aw.1 hk).2;split
  ·rename_i e;subst e;rw[if_neg (by omega)];rw[Gp]at ha;exact key _ (bz hj) ha
  ·split
   ·rename_i e1 e;subst e;rw[Gp]at ha;exact(key _ (bz hi) ha.symm).symm
   ·exact ha
theorem j4.BS (h:j4 n0 w W n cs):n0<=w.heap.size:=by
 obtain⟨CS,S,m,bs,hw⟩:=h.b;have:=hw.ls.cell.2.2;have:=h.lo;omega
theorem j4.prog (h:j4 n0 w W n cs) (hk:cs[k]?=some c) {A':PA} {s':St} (hb:But c.F w w') (hp:yc w' (λb=>c.F b\/w.heap.size<=b) A' s') (e:A'.cl=c.A.cl):
  j4 n0 w' W n (cs.set k {c with A:=A',F:=λb=>(c.F b\/w.heap.size<=b)/\b<w'.heap.size,s:=s'}):=
 h.turn hk hb (λb hb=>.inl hb) ((h.each c (aG hk)).prog h.BS hb hp) e rfl λb eZ=>by
  rcases eZ with⟨h1|h1,_⟩|h1
  ·exact .inl (.inl h1)
  ·exact .inr h1
  ·exact .inl (.inr h1)
theorem j4.doc (h:j4 n0 w W n cs) (hk:cs[k]?=some c) {B':MA} {t':St} (hb:But c.G w w') (hp:yx w' (λb=>c.G b\/w.heap.size<=b) B' t') (e:B'.ml=c.B.ml):
  j4 n0 w' W n (cs.set k {c with B:=B',G:=λb=>(c.G b\/w.heap.size<=b)/\b<w'.heap.size,t:=t'}):=
 h.turn hk hb (λb hb=>.inr hb) ((h.each c (aG hk)).doc h.BS hb hp) rfl e λb eZ=>by
  rcases eZ with h1|⟨h1|h1,_⟩
  ·exact .inl (.inl h1)
  ·exact .inl (.inr h1)
  ·exact .inr h1
theorem uE.idle (h:uE n0 w W n cs CS S m bs) (hb:But (λ_=>False) w w'):uE n0 w' W n cs CS S m bs:=by
 obtain⟨xs,h6⟩:=h.ls.row;exact⟨h.ls.block (hb.keep W h.ls.cell.2.2 id) (λg hg=>hb.keep g (h6.lt g hg).2 id) (λg hg=>hb.keep g (h.GZ hg) id),qi h.cr λg hg=>hb.keep g (h.cr.lt g hg).2 id,qi h.br λg hg=>hb.keep g (h.br.lt g hg).2 id,h.le,h.out,h.off⟩
theorem j4.idle (h:j4 n0 w W n cs) (hb:But (λ_=>False) w w'):j4 n0 w' W n cs:=by
 obtain⟨CS,S,m,bs,hw⟩:=h.b;exact⟨h.lo,⟨CS,S,m,bs,hw.idle hb⟩,λc hc=>(h.each c hc).idle hb,h.apart⟩
theorem j4.below (h:j4 n0 w W n cs) (hb:ai w.heap.size w w'):j4 n0 w' W n cs:=h.idle (But.of_below hb)
theorem j4.up {n':Nat} (h:j4 n0 w W n cs) (hn:n<=n'):j4 n0 w W n' cs:=by
 obtain⟨CS,S,m,bs,hw⟩:=h.b;exact⟨h.lo,⟨CS,S,m,bs,⟨hw.ls,hw.cr,hw.br,⟨xlt hw.le.1 hn,xlt hw.le.2.1 hn,hw.le.2.2⟩,hw.out,hw.off⟩⟩,h.each,h.apart⟩
end
section
variable {n0:Nat} {w w':aa} {W n k m:Nat} {cs:List Cst} {c d:Cst} {CS:wZ} {S:ac} {bs:List Bs}
theorem j4.ji1 {l:ac} {base q:Nat} (h:j4 n0 w W n cs) (hw:uE n0 w W n cs CS S m bs) (hb:But (Ap W S l) w w') (hl:w.ownsRow base 74 2 l q xs)
  (p9:∀c∈cs,∀b,c.own b->b<base) (QM:∃S',lJ n0 w' W CS S' (m+1)/\∀g,S'.ownBlock=some g->S.ownBlock=some g\/w.heap.size<=g):j4 n0 w' W (n+1) cs:=by
 obtain⟨cur,h1,_⟩:=hw.ls.b;obtain⟨ys,hy⟩:=hw.ls.row;obtain⟨S',Mf,QM⟩:=QM;have no:∀(b:Nat) (cur:Array ac) (ty:bA),w.heap[b]?=some (aF cur ty (0,0))->ty≠74->ty≠47->ty≠36->w'.heap[b]?=w.heap[b]?:=λb cur ty eZ n1 n2 n3=>by
  refine hb.keep b (zi eZ).1 ?_;rintro(e|e|e)
  ·rw[e,h1]at eZ;have e2:=xoi eZ;injection e2 with _ e3;exact n3 e3.symm
  ·obtain⟨c',jL⟩:=jm hy e;rw[jL]at eZ;have e2:=xoi eZ;injection e2 with _ e3;exact n2 e3.symm
  ·obtain⟨c',jL⟩:=jm hl e;rw[jL]at eZ;have e2:=xoi eZ;injection e2 with _ e3;exact n1 e3.symm
 refine⟨h.lo,⟨CS,S',m+1,bs,⟨Mf,qi hw.cr λg hg=>?_,qi hw.br λg hg=>?_,⟨by have:=hw.le.1;omega,by have:=hw.le.2.1;omega,hw.le.2.2⟩,hw.out,λb eZ ho=>?_⟩⟩,λc hc=>(h.each c hc).but hb λb pR eZ=>?_,h.apart⟩
 ·obtain⟨cp,QH⟩:=jm hw.cr hg;exact no g cp _ QH (by decide) (by decide) (by decide)
 ·obtain⟨cp,QH⟩:=jm hw.br hg;exact no g cp _ QH (by decide) (by decide) (by decide)
 ·have low:b<w.heap.size->¬CS.out b->False:=λ_ hn=>hn ho;rcases eZ with e|e|e|e
  ·exact hw.off b (.inl e) ho
  ·exact hw.off b (.inr (.inl e)) ho
  ·exact hw.off b (.inr (.inr (.inl e))) ho
  ·rcases QM b e with e2|e2
   ·exact hw.off b (.inr (.inr (.inr e2))) ho
   ·rw[hw.out]at ho;obtain⟨c,hc,pR⟩:=ho;have:=((h.each c hc).lo b pR).2;omega
 ·have ho:CS.out b:=by rw[hw.out];exact⟨c,hc,pR⟩
  rcases eZ with e|e|e
  ·exact hw.off b (.inl e) ho
  ·exact hw.off b (.inr (.inr (.inr e))) ho
  ·have h2:=p9 c hc b pR;have h3:=(hl.lt b e).1;omega
theorem qzv:∃i,prog.info? 56=some i/\i.zero=some (.agg #[.pointer none,.pointer none])/\i.size=2/\i.bytes=16:=by
 have h:(prog.info? 56).map (λi=>(i.zero,i.size,i.bytes))=some (some (.agg #[.pointer none,.pointer none]),2,16):=by kernel_rfl
 obtain⟨i,h1,h2⟩:=aB.1 h;injection h2 with h2 h3;injection h3 with h3 h4;exact⟨i,h1,h2,h3,h4⟩
theorem uE.grown {v0:ac} {o:Obj} (hw:uE n0 w W n cs CS S m bs) (xL:∀g,v0.ownBlock=some g->BQ W CS S g/\∃cur,w.heap[g]?=some (.cells cur ty (0,0))) (hty:ty=56\/ty=9) (hg:(w.alloc o).grownBy w3 v0.ownBlock):
  (∃cur,w3.heap[W]?=some (.cells cur 36 (0,0))/\w.heap[W]?=w3.heap[W]?)/\But (λb=>b=W\/v0.ownBlock=some b) w (w3.setCell ⟨W,j,none⟩ v3)/\
   (∀(b:Nat) (cur:Array ac) (t:bA),w.heap[b]?=some (aF cur t (0,0))->t≠ty->t≠36->(w3.setCell ⟨W,j,none⟩ v3).heap[b]?=w.heap[b]?)/\
   (∀c∈cs,nR n0 w c->nR n0 (w3.setCell ⟨W,j,none⟩ v3) c):=by
 obtain⟨cur,h1,_⟩:=hw.ls.b;have eH:=(zi h1).1;have Si:some W≠v0.ownBlock:=λe=>by
  obtain⟨_,c,hc⟩:=xL W e.symm;rw[h1]at hc;have e2:=xoi hc;injection e2 with _ e3;rcases hty with h|h
  ·rw[h]at e3;exact absurd e3 (by decide)
  ·rw[h]at e3;exact absurd e3 (by decide)
 have gN:w3.heap[W]?=some (.cells cur 36 (0,0)):=(hg.block W (by simp;omega) Si).trans ((am w o eH).trans h1);have kF:But (λb=>b=W\/v0.ownBlock=some b) w (w3.setCell ⟨W,j,none⟩ v3):=But.setCell ⟨by have:=hg.size;simp at this;omega,λb hb hn=>(hg.block b (by simp;omega) λe=>hn (.inr e.symm)).trans (am w o hb),(by rw[hg.os];rfl),(by rw[hg.output];rfl)⟩ (.inl rfl) _ _;refine⟨⟨cur,gN,by rw[gN,h1]⟩,kF,λb um t eZ n1 n2=>kF.keep b (zi eZ).1 ?_,λc hc kH=>kH.but kF λb pR eZ=>?_⟩
 ·rintro(e|e)
  ·rw[e,h1]at eZ;have e2:=xoi eZ;injection e2 with _ e3;exact n2 e3.symm
  ·obtain⟨_,c',jL⟩:=xL b e;rw[jL]at eZ;have e2:=xoi eZ;injection e2 with _ e3;exact n1 e3.symm
 ·have ho:CS.out b:=by rw[hw.out];exact⟨c,hc,pR⟩
  rcases eZ with e|e
  ·exact hw.off b (.inl e) ho
  ·exact hw.off b (xL b e).1 ho
theorem j4.add {o:Obj} (h:j4 n0 w W n cs) (hw:uE n0 w W n cs CS S m bs)
  (hc:nR n0 w c) (qN:∀d∈cs,Apart d c) (yE:∀b,BQ W CS S b\/mD w S b->¬c.own b) (hg:(w.alloc o).grownBy w3 CS.cs.ownBlock) (rD:∀g,v3.ownBlock=some g->CS.cs.ownBlock=some g\/w.heap.size<=g)
  (hr:w3.ownsRow n0 56 2 v3 (cs.length+1) (qB cs++[.pointer (some ⟨c.A.cl,0,none⟩),.pointer (some ⟨c.B.ml,0,none⟩)])):
  w3.cell? ⟨W,0,none⟩=some CS.cs/\w3.frozen? ⟨W,0,none⟩=false/\j4 n0 (w3.setCell ⟨W,0,none⟩ v3) W n (cs++[c])/\But (λb=>n0<=b) w (w3.setCell ⟨W,0,none⟩ v3):=by
 obtain⟨cur,h1,q2,h2,h3,QY⟩:=hw.ls.b;obtain⟨xs,h6⟩:=hw.ls.row;obtain⟨⟨um,gN,Ik⟩,kF,no,keep⟩:=hw.grown (w3:=w3) (v3:=v3) (v0:=CS.cs) (o:=o) (j:=0) (λg hg=>⟨.inr (.inl hg),jm hw.cr hg⟩) (.inl rfl) hg;rw[h1,gN]at Ik;obtain rfl:cur=um:=by
  have e2:=xoi Ik;injection e2
 have rows:∀{v:ac} {q size:Nat} {ty:bA} {ys:List ac},w.ownsRow n0 ty size v q ys->ty≠56->ty≠36->(w3.setCell ⟨W,0,none⟩ v3).ownsRow n0 ty size v q ys:=λ{v q size ty ys} hr n1 n2=>qi hr λg ig=>by
  obtain⟨c,hc⟩:=jm hr ig;exact no g c ty hc n1 n2
 have hn:∀b,(b=W\/CS.cs.ownBlock=some b)->n0<=b:=λb hb=>hb.elim (λe=>e▸h.lo) λe=>(hw.cr.lt b e).1;have GD:Az (w3.setCell ⟨W,0,none⟩ v3) S=Az w S:=by rw[A8 (rows h6 (by decide) (by decide)),A8 h6]
 have hsz3:w.heap.size<=w3.heap.size:=by have:=hg.size;simp at this;omega
 have uf:∀b,(∃x∈cs++[c],x.own b)->CS.out b\/c.own b:=λb ⟨x,hx,zJ⟩=>by
  rcases bY.1 hx with hx|hx
  ·exact .inl (by rw[hw.out];exact⟨x,hx,zJ⟩)
  ·rw[bg]at hx;subst hx;exact .inr zJ
 refine⟨by simp[ah,gN,h2],by simp[ay,gN],⟨h.lo,⟨⟨v3,CS.bs,λb=>∃x∈cs++[c],x.own b⟩,S,m,bs,⟨⟨⟨_,xhs w3 W 0 cur _ _ gN,by rw[xne (by omega),q2],by rw[xsl ((zi h2).1)],by rw[xne (by omega),h3],by rw[xne (by omega),QY]⟩,⟨xs,rows h6 (by decide) (by decide)⟩,λk l hk=>?_,λg ig ho=>?_⟩,?_,rows hw.br (by decide) (by decide),hw.le,rfl,λb eZ ho=>?_⟩⟩,λd hd=>?_,?_⟩,⟨kF.size,λb hb pM=>kF.keep b hb λx=>pM (hn b x),kF.os,kF.output⟩⟩
 ·rw[GD]at hk;obtain⟨q,ys,z1,z2⟩:=hw.ls.kept k l hk;exact⟨q,ys,qi z1 λg ig=>by
   obtain⟨c,hc⟩:=jm z1 ig
   exact no g c _ hc (by decide) (by decide),z2⟩
 ·have fO:mD w S g:=by unfold mD at ig⊢;rw[GD]at ig;exact ig
  rcases uf g ho with h4|h4
  ·exact hw.ls.out g fO h4
  ·exact yE g (.inr fO) h4
 ·show(w3.setCell ⟨W,0,none⟩ v3).ownsRow n0 56 2 v3 (cs++[c]).length (qB (cs++[c]));rw[al,qtm];refine aD hr (λe=>?_) _;obtain⟨c',jL⟩:=jm hr e;rw[show(⟨W,0,none⟩:Addr).block=W from rfl,gN]at jL;cases jL
 ·have key:BQ W CS S b->False:=λeZ=>by
   rcases uf b ho with h4|h4
   ·exact hw.off b eZ h4
   ·exact yE b (.inl eZ) h4
  rcases eZ with e|e|e|e
  ·exact key (.inl e)
  ·rcases rD b e with e2|e2
   ·exact key (.inr (.inl e2))
   ·rcases uf b ho with h4|h4
    ·rw[hw.out]at h4;obtain⟨d,hd,xV⟩:=h4;have:=((h.each d hd).lo b xV).2;omega
    ·have:=(hc.lo b h4).2;omega
  ·exact key (.inr (.inr (.inl e)))
  ·exact key (.inr (.inr (.inr e)))
 ·rcases bY.1 hd with hd|hd
  ·exact keep d hd (h.each d hd)
  ·rw[bg]at hd;subst hd;refine hc.but kF λb pR eZ=>?_;rcases eZ with e|e
   ·exact yE b (.inl (.inl e)) pR
   ·exact yE b (.inl (.inr (.inl e))) pR
 ·rw[List.pairwise_append];exact⟨h.apart,by simp,λa ha b hb=>by rw[bg]at hb;subst hb;exact qN a ha⟩
theorem j4.told {o:Obj} {b0:Bs} (h:j4 n0 w W n cs) (hw:uE n0 w W n cs CS S m bs)
  (hg:(w.alloc o).grownBy w3 CS.bs.ownBlock) (rD:∀g,v3.ownBlock=some g->CS.bs.ownBlock=some g\/w.heap.size<=g)
  (hr:w3.ownsRow n0 9 1 v3 (bs.length+1) (bs.map sv++[sv b0])) (oH:b0.length<=32):
  w3.cell? ⟨W,1,none⟩=some CS.bs/\w3.frozen? ⟨W,1,none⟩=false/\j4 n0 (w3.setCell ⟨W,1,none⟩ v3) W (n+1) cs/\But (λb=>n0<=b) w (w3.setCell ⟨W,1,none⟩ v3):=by
 obtain⟨cur,h1,q2,h2,h3,QY⟩:=hw.ls.b;obtain⟨xs,h6⟩:=hw.ls.row;obtain⟨⟨um,gN,Ik⟩,kF,no,keep⟩:=hw.grown (w3:=w3) (v3:=v3) (v0:=CS.bs) (o:=o) (j:=1) (λg hg=>⟨.inr (.inr (.inl hg)),jm hw.br hg⟩) (.inr rfl) hg;rw[h1,gN]at Ik;obtain rfl:cur=um:=by
  have e2:=xoi Ik;injection e2
 have rows:∀{v:ac} {q size:Nat} {ty:bA} {ys:List ac},w.ownsRow n0 ty size v q ys->ty≠9->ty≠36->(w3.setCell ⟨W,1,none⟩ v3).ownsRow n0 ty size v q ys:=λ{v q size ty ys} hr n1 n2=>qi hr λg ig=>by
  obtain⟨c,hc⟩:=jm hr ig;exact no g c ty hc n1 n2
 have hn:∀b,(b=W\/CS.bs.ownBlock=some b)->n0<=b:=λb hb=>hb.elim (λe=>e▸h.lo) λe=>(hw.br.lt b e).1;have GD:Az (w3.setCell ⟨W,1,none⟩ v3) S=Az w S:=by rw[A8 (rows h6 (by decide) (by decide)),A8 h6]
 refine⟨by simp[ah,gN,h3],by simp[ay,gN],⟨h.lo,⟨⟨CS.cs,v3,CS.out⟩,S,m,bs++[b0],⟨⟨⟨_,xhs w3 W 1 cur _ _ gN,by rw[xne (by omega),q2],by rw[xne (by omega),h2],by rw[xsl ((zi h3).1)],by rw[xne (by omega),QY]⟩,⟨xs,rows h6 (by decide) (by decide)⟩,λk l hk=>?_,λg ig ho=>?_⟩,rows hw.cr (by decide) (by decide),?_,⟨by have:=hw.le.1;omega,by have:=hw.le.2.1;simp;omega,λb hb=>(bY.1 hb).elim (hw.le.2.2 b) λhb=>by rw[bg.1 hb];exact oH⟩,hw.out,λb eZ ho=>?_⟩⟩,λd hd=>keep d hd (h.each d hd),h.apart⟩,⟨kF.size,λb hb pM=>kF.keep b hb λx=>pM (hn b x),kF.os,kF.output⟩⟩
 ·rw[GD]at hk;obtain⟨q,ys,z1,z2⟩:=hw.ls.kept k l hk;exact⟨q,ys,qi z1 λg ig=>by
   obtain⟨c,hc⟩:=jm z1 ig
   exact no g c _ hc (by decide) (by decide),z2⟩
 ·have fO:mD w S g:=by unfold mD at ig⊢;rw[GD]at ig;exact ig
  exact hw.ls.out g fO ho
 ·show(w3.setCell ⟨W,1,none⟩ v3).ownsRow n0 9 1 v3 (bs++[b0]).length ((bs++[b0]).map sv);rw[al,List.map_append];refine aD hr (λe=>?_) _;obtain⟨c',jL⟩:=jm hr e;rw[show(⟨W,1,none⟩:Addr).block=W from rfl,gN]at jL;have e2:=xoi jL;injection e2 with _ e3;exact absurd e3 (by decide)
 ·rcases eZ with e|e|e|e
  ·exact hw.off b (.inl e) ho
  ·exact hw.off b (.inr (.inl e)) ho
  ·rcases rD b e with e2|e2
   ·exact hw.off b (.inr (.inr (.inl e2))) ho
   ·have wQ:CS.out b:=ho;rw[hw.out]at wQ;obtain⟨d,hd,xV⟩:=wQ;have:=((h.each d hd).lo b xV).2;omega
  ·exact hw.off b (.inr (.inr (.inr e))) ho
end
section
variable {w:aa}
def Dc (w:aa):aa:=(w.alloc (.map #[] 0)).alloc (.cells #[.map (some w.heap.size)] 142)
theorem Vd:az prog 39 #[] w λe w'=>e=.returned (.pointer (some ⟨w.heap.size+1,0,none⟩))/\w'=Dc w:=by
 have tC:= @run_makeMap prog;go_enter func39,ntmps39;go_wp2;go_ret;exact⟨rfl,rfl⟩
theorem heap_alloc_new' (w:aa) (o:Obj) (h:n=w.heap.size):(w.alloc o).heap[n]?=some o:=by subst h;exact bh w o
theorem Vo {mb:Nat} (h:w'.heap[mb]?=some (.map #[] 0)):zk w' mb []:=by
 have h0:(({w' with heap:=#[]}:aa).alloc (.map #[] 0)).ownsMap prog 9 Rv 0 0 (DM []):=World.ownsMap_made _ _ _ _;obtain⟨es,ck,h1,F⟩:=h0;have h2:(({w' with heap:=#[]}:aa).alloc (.map #[] 0)).heap[0]?=some (.map #[] 0):=rfl;rw[h2]at h1;cases h1;exact⟨#[],0,h,F⟩
theorem jc5 (h:Int) (hh:h<2\/4<h) (Ja: -9223372036854775808<=h/\h<=9223372036854775807):az prog 17 #[.int .i64 h] w λe w'=>e=.returned (.tuple #[.pointer none,.int .i64 1])/\w'=w:=by
 rcases bD h 2 with h2|h2
 ·have g1:decide (h<2)=true:=by simp;omega
  go_enter func17,ntmps17;go_wp2;go_ret2;exact⟨rfl,rfl⟩
 ·have g1:decide (h<2)=false:=by simp;omega
  have g2:decide (4<h)=true:=by simp;omega
  go_enter func17,ntmps17;go_wp2;go_ret2;exact⟨rfl,rfl⟩
end
theorem q0h:∃i,prog.info? 104=some i/\i.zero=some (.agg #[.int .i64 0,.slice none 0 0,.pointer none])/\i.size=3/\i.bytes=40:=by
 have h:(prog.info? 104).map (λi=>(i.zero,i.size,i.bytes))=some (some (.agg #[.int .i64 0,.slice none 0 0,.pointer none]),3,40):=by kernel_rfl
 obtain⟨i,h1,h2⟩:=aB.1 h;injection h2 with h2 h3;injection h3 with h3 h4;exact⟨i,h1,h2,h3,h4⟩
def yV (h:Nat):Nat->List ac
 |0=>[]
 |j+1=>yV h j++[.int .i64 ((j:Int).tmod (h:Int)),.slice none 0 0,.pointer none]
theorem Wh (h:Nat):∀j i,i<j->(yV h j)[i*3+1]?=some (.slice none 0 0)/\(yV h j)[i*3+2]?=some (.pointer none)/\(yV h j)[i*3]?=some (.int .i64 ((i:Int).tmod (h:Int)))
 |0,i,hi=>by omega
 |j+1,i,hi=>by
  have hl:∀j,(yV h j).length=j*3:=λj=>by
   induction j with
   |zero=>rfl
   |succ j ih=>simp only[yV,al,ih,cC,List.length_nil];omega
  unfold yV;by_cases e:i=j
  ·subst e;rw[aU (by rw[hl];omega),aU (by rw[hl];omega),aU (by rw[hl];omega),hl,show i*3+1-i*3=1 by omega,show i*3+2-i*3=2 by omega,show i*3-i*3=0 by omega];exact⟨rfl,rfl,rfl⟩
  ·rw[aX (by rw[hl];omega),aX (by rw[hl];omega),aX (by rw[hl];omega)];exact Wh h j i (by omega)
theorem cells3 (w:aa) (a b c:ac) (ty:bA):∀(j:Nat) (u:ac),[a,b,c][j]?=some u->(w.alloc (.cells #[a,b,c] ty)).cell? ((⟨w.heap.size,0,none⟩:Addr).add j)=some u:=λj u hj=>by
 rw[aO,bE];match j,hj with
 |0,hj=>simp at hj;subst hj;go_simp
 |1,hj=>simp at hj;subst hj;go_simp
 |2,hj=>simp at hj;subst hj;go_simp
structure BN (W w:aa) (h ml j:Nat) (S:ac):Prop where
 b:w.heap[ml]?=some (.cells #[.int .i64 h,S,.slice none 0 0,.int .i64 0,.int .i64 0] 101 (0,0))
 row:w.ownsRow (ml+1) 104 3 S j (yV h j)
 lo:W.heap.size<=ml
 below:ai W.heap.size W w
section
variable {W w w1 w3:aa} {h ml j:Nat} {S:ac}
theorem BN.cell (H:BN W w h ml j S):w.cell? ⟨ml,1,none⟩=some S/\w.frozen? ⟨ml,1,none⟩=false/\ml<w.heap.size:=by
 have h1:=H.b;exact⟨by simp[ah,h1],by simp[ay,h1],(zi h1).1⟩
theorem BN.app {cap:Nat} (H:BN W w h ml j S) (o:Obj) (hw:w1=(w.alloc o).drew) (hg:w1.grownBy w3 S.ownBlock) (hr:w3.ownsRow (ml+1) 104 3 (.slice (some ⟨g,0,none⟩) (j+1) cap) (j+1) xs):
  w3.cell? ⟨ml,1,none⟩=some S/\w3.frozen? ⟨ml,1,none⟩=false/\(xs=yV h (j+1)->BN W (w3.setCell ⟨ml,1,none⟩ (.slice (some ⟨g,0,none⟩) (j+1) cap)) h ml (j+1) (.slice (some ⟨g,0,none⟩) (j+1) cap)):=by
 subst hw;have h1:=H.b;have eH:=H.cell.2.2;have fA:some ml≠S.ownBlock:=λe=>by have:=(H.row.lt ml e.symm).1;omega
 have gN:w3.heap[ml]?=some (.cells #[.int .i64 h,S,.slice none 0 0,.int .i64 0,.int .i64 0] 101 (0,0)):=(hg.block ml (by simp;omega) fA).trans ((am w o eH).trans h1);refine⟨by simp[ah,gN],by simp[ay,gN],λe=>?_⟩;subst e;have Td:ai W.heap.size W w3:=(show ai W.heap.size W (w.alloc o).drew from(H.below.alloc H.below.size o).drew).grown hg (by have:=H.below.size;simp;omega) λk hk=>by have:=(H.row.lt k hk).1;have:=H.lo;omega
 refine⟨(xhs w3 ml 1 _ _ _ gN).trans rfl,?_,H.lo,Td.setCell H.lo _⟩
 ·refine aD hr (λe=>?_) _;have:=(hr.lt ml e).1;omega
def Fg (h:Nat):St:=⟨h,λi=>i%h,λ_=>[],λ_=>none,λ_ _=>none,0,0⟩
def q1k (h:Nat) (w:aa) (e:cg) (w':aa):Prop:= ∃B:MA,e=.returned (.tuple #[.pointer (some ⟨B.ml,0,none⟩),.bool true])/\yx w' (λb=>w.heap.size<=b) B (Fg h)/\ai w.heap.size w w'
theorem UO (i h:Nat):((i:Int).tmod (h:Int))=((i%h:Nat):Int):=by
 rw[bF (Int.natCast_nonneg i)];rfl
theorem BN.mat (H:BN W w h ml 4 S):∃B:MA,B.ml=ml/\yx w (λb=>W.heap.size<=b) B (Fg h):=by
 have h1:=H.b;rcases H.row.2 with⟨_,hz⟩|⟨g,cap,cur,rfl,hg,hb,hc,hm,hs,ht⟩
 ·cases hz
 ·refine⟨⟨ml,g,λ_=>.slice none 0 0,λ_=>none,λ_=>.slice none 0 0,λ_=>.slice none 0 0,.slice none 0 0,cap,[]⟩,rfl,⟨⟨H.lo,h1⟩,⟨by have:=H.lo;show W.heap.size<=g;omega,cur,hb,λi hi=>?_⟩,λi hi=>⟨⟨aH _ _ _ _,kS.nil _⟩,λb hb=>(by cases hb)⟩,λi hi=>⟨rfl,rfl⟩,λi j g hi hj h=>(by cases h),λi j g hi hj h=>(by cases h),⟨aH _ _ _ _,λb hb=>(by cases hb),λe he=>(by cases he),.nil,λh k _ _ e=>(by cases e)⟩⟩⟩;obtain⟨g1,g2,g3⟩:=Wh h 4 i hi;rw[<-ht]at g1 g2 g3;rw[List.getElem?_take_of_lt (by omega)]at g1 g2 g3;rw[UO]at g3;exact⟨by rw[<-aS];exact g3,by rw[<-aS];exact g1,by rw[<-aS];exact g2⟩
theorem q9h (h:Int) (hh:h<2\/4<h) (Ja: -9223372036854775808<=h/\h<=9223372036854775807):az prog 22 #[.int .i64 h] w λe w'=>e=.returned (.tuple #[.pointer none,.bool false])/\w'=w:=by
 rcases bD h 2 with h2|h2
 ·have g1:decide (h<2)=true:=by simp;omega
  go_enter func22,ntmps22;go_wp2;go_ret2;exact⟨rfl,rfl⟩
 ·have g1:decide (h<2)=false:=by simp;omega
  have g2:decide (4<h)=true:=by simp;omega
  go_enter func22,ntmps22;go_wp2;go_ret2;exact⟨rfl,rfl⟩
theorem q5i (h:Nat) (h2:2<=h) (h4:h<=4):az prog 22 #[.int .i64 h] w (q1k h w):=by
 have g1:decide ((h:Int)<2)=false:=by simp;omega
 have g2:decide ((4:Int)<h)=false:=by simp;omega
 have hh0:¬h=0:=by omega
 obtain⟨si,s1,s2,s3,s4⟩:=q0h;have HS:=Hd (ag s1 (ag s2 (ag s3 s4)));clear s1 s2 s3 s4;go_enter func22,ntmps22;go_wp2;go_loopw [5] (λi wr=>∃j:Nat,j<=4/\i=.int .i64 j/\Hid (∃S,BN w wr h w.heap.size j S)) (λi _=>4-(intOf i).toNat);case atStart=>
  exact⟨0,by omega,rfl,Hd ⟨.slice none 0 0,bh _ _,aH _ _ _ _,ji _,(jg _ _).alloc (ji _) _⟩⟩
 case round=>
  obtain⟨j,hj,rfl,HN⟩:=hrel;by_cases qK:j<4
  ·obtain⟨S,hN⟩:=HN.o;have pV:=Hd hN;obtain⟨c1,f1,l1⟩:=pV.out.cell;clear hN;go_wp2;go_region_law (first|(refine step_append_lies _ rfl (.tmp 23) (.tmp 28) 98 rfl (w.heap.size+1) 104 si _ 3 40 underlying98 HS.1 HS.2.1 HS.2.2.1 HS.2.2.2 rfl (by decide) S j (yV h j) rfl (pV.out.row.alloc _) ⟨wr.heap.size,0,none⟩ 1 1 [.int .i64 ((j:Int).tmod (h:Int)),.slice none 0 0,.pointer none] rfl rfl (cells3 wr _ _ _ _) (by intro u hu;simp at hu;rcases hu with rfl|rfl|rfl<;>rfl) (by decide) (by unfold bB;omega) (by omega) (by simp;omega) _ rfl ?_;intro g cap w3 fF jW LF EN;have H3:=Hd (pV.out.app _ rfl jW fF);obtain⟨d3,e3,_⟩:=H3.o;clear fF jW LF EN));all_goals
    go_wp2;go_roundw;case rel=>exact⟨j+1,by omega,rfl,Hd ⟨_,H3.2.2 rfl⟩⟩
    case measure=>simp[intOf];omega
  ·obtain rfl:j=4:=by omega
   obtain⟨S,hN⟩:=HN.o;have pV:=Hd hN;clear hN;go_wp2;go_ret2;obtain⟨B,hB,q2⟩:=pV.out.mat;exact⟨B,by rw[hB];rfl,q2,pV.out.below⟩
end
structure NewAt (h:Nat) (W w:aa) (cl j:Nat) (db mb:Nat->Nat):Prop where
 b:∃cur,w.heap[cl]?=some (.cells cur 83 (0,0))/\cur.size=16/\(∀i,i<j->cur[1+i*3]?=some (.int .i64 ((i:Int).tmod (h:Int)))/\cur[1+i*3+1]?=some (.pointer (some ⟨db i,0,none⟩))/\cur[1+i*3+2]?=some (.pointer none))/\cur[0]?=some (.int .i64 h)/\cur[13]?=some (.map (some W.heap.size))/\cur[14]?=some (.int .i64 0)/\cur[15]?=some (.int .i64 0)
 sm:w.heap[W.heap.size]?=some (.map #[] 0)/\W.heap.size<cl
 d:∀i,i<j->w.heap[db i]?=some (.cells #[.map (some (mb i))] 142 (0,0))/\w.heap[mb i]?=some (.map #[] 0)/\cl<db i/\cl<mb i
 ne:∀i i',i<j->i'<j->mb i=mb i'->i=i'
 cl:W.heap.size<=cl
 below:ai W.heap.size W w
theorem NewAt.cells {hh:Nat} {W w:aa} {cl j:Nat} {db mb:Nat->Nat} (h:NewAt hh W w cl j db mb) {k:Nat} (hk:k<16):(∃v,w.cell? ⟨cl,k,none⟩=some v)/\w.frozen? ⟨cl,k,none⟩=false:=by
 obtain⟨cur,h1,h2,_⟩:=h.b;exact⟨⟨cur[k]'(by omega),by simp[ah,h1,show k<cur.size by omega]⟩,by simp[ay,h1]⟩
theorem NewAt.lt {W:aa} (h:NewAt hh W w cl j db mb):cl<w.heap.size:=by
 obtain⟨cur,h1,_⟩:=h.b;exact(zi h1).1
theorem NewAt.made {W:aa} (h:NewAt hh W w cl j db mb) (e:w'=Dc (w.drewN 1)):
  NewAt hh W w' cl j db mb/\w'.heap[w.heap.size+1]?=some (.cells #[.map (some w.heap.size)] 142 (0,0))/\w'.heap[w.heap.size]?=some (.map #[] 0)/\(∀i,i<j->mb i<w.heap.size)/\cl<w.heap.size/\w'.heap.size=w.heap.size+2:=by
 subst e;have hz:(Dc (w.drewN 1)).heap=(w.heap.push (.map #[] 0)).push (.cells #[.map (some w.heap.size)] 142 (0,0)):=rfl;have old:∀b,b<w.heap.size->(Dc (w.drewN 1)).heap[b]?=w.heap[b]?:=λb hb=>by
  rw[hz,aK,if_neg (by simp;omega),aK,if_neg (by omega)]
 obtain⟨cur,h1,h2,h3⟩:=h.b;refine⟨⟨⟨cur,(old _ h.lt).trans h1,h2,h3⟩,⟨(old _ (zi h.sm.1).1).trans h.sm.1,h.sm.2⟩,λi hi=>?_,h.ne,h.cl,?_⟩,?_,?_,λi hi=>?_,h.lt,?_⟩
 ·obtain⟨h4,h5,h6⟩:=h.d i hi;exact⟨(old _ (zi h4).1).trans h4,(old _ (zi h5).1).trans h5,h6⟩
 ·exact⟨h.below.os,h.below.tape,h.below.output,by rw[hz];have:=h.below.size;simp;omega,λk hk=>(old k (xll hk h.below.size)).trans (h.below.block k hk)⟩
 ·rw[hz,aK,if_pos (by simp)]
 ·rw[hz,aK,if_neg (by simp),aK,if_pos rfl]
 ·exact(zi (h.d i hi).2.1).1
 ·rw[hz];simp
theorem NewAt.stored {W:aa} (h:NewAt hh W w cl j db mb) (hj:j<4)
  (hd:w.heap[m+1]?=some (.cells #[.map (some m)] 142 (0,0))) (hm:w.heap[m]?=some (.map #[] 0)) (eH:∀i,i<j->mb i<m) (oG:cl<m)
  (e:w'=((w.setCell ⟨cl,1+j*3,none⟩ (.int .i64 ((j:Int).tmod (hh:Int)))).setCell ⟨cl,1+j*3+1,none⟩ (.pointer (some ⟨m+1,0,none⟩))).setCell ⟨cl,1+j*3+2,none⟩ (.pointer none)):NewAt hh W w' cl (j+1) (qx db j (m+1)) (qx mb j m):=by
 subst e;obtain⟨cur,h1,h2,h3⟩:=h.b;have s1:=xhs w cl (1+j*3) cur _ (.int .i64 ((j:Int).tmod (hh:Int))) h1;have s2:=xhs _ cl (1+j*3+1) _ _ (.pointer (some ⟨m+1,0,none⟩)) s1;have s3:=xhs _ cl (1+j*3+2) _ _ (.pointer none) s2;have ho:∀b,b≠cl->(((w.setCell ⟨cl,1+j*3,none⟩ (.int .i64 ((j:Int).tmod (hh:Int)))).setCell ⟨cl,1+j*3+1,none⟩ (.pointer (some ⟨m+1,0,none⟩))).setCell ⟨cl,1+j*3+2,none⟩ (.pointer none)).heap[b]?=w.heap[b]?:=λb hb=>by
  rw[xho _ _ _ _ hb,xho _ _ _ _ hb,xho _ _ _ _ hb]
 obtain⟨h3,p0,PS,PO,PN⟩:=h3;refine⟨⟨_,s3,by simp[h2],λi hi=>?_,?_,?_,?_,?_⟩,⟨(ho _ (by have:=h.sm.2;omega)).trans h.sm.1,h.sm.2⟩,λi hi=>?_,λi i' hi fI he=>?_,h.cl,((h.below.setCell h.cl _).setCell h.cl _).setCell h.cl _⟩
 ·unfold qx;by_cases e:i=j
  ·subst e;rw[if_pos rfl];refine⟨?_,?_,?_⟩
   ·rw[xne (by omega),xne (by omega),xsl (by omega)]
   ·rw[xne (by omega),xsl (by simp;omega)]
   ·rw[xsl (by simp;omega)]
  ·obtain⟨h4,h5,h6⟩:=h3 i (by omega);rw[if_neg e];refine⟨?_,?_,?_⟩
   ·rw[xne (by omega),xne (by omega),xne (by omega),h4]
   ·rw[xne (by omega),xne (by omega),xne (by omega),h5]
   ·rw[xne (by omega),xne (by omega),xne (by omega),h6]
 ·rw[xne (by omega),xne (by omega),xne (by omega),p0]
 ·rw[xne (by omega),xne (by omega),xne (by omega),PS]
 ·rw[xne (by omega),xne (by omega),xne (by omega),PO]
 ·rw[xne (by omega),xne (by omega),xne (by omega),PN]
 ·unfold qx;by_cases e:i=j
  ·rw[if_pos e,if_pos e];exact⟨(ho _ (by omega)).trans hd,(ho _ (by omega)).trans hm,by omega,oG⟩
  ·rw[if_neg e,if_neg e];obtain⟨h4,h5,h6,h7⟩:=h.d i (by omega);exact⟨(ho _ (by omega)).trans h4,(ho _ (by omega)).trans h5,h6,h7⟩
 ·unfold qx at he;by_cases e1:i=j
  ·by_cases e2:i'=j
   ·omega
   ·rw[if_pos e1,if_neg e2]at he;have:=eH i' (by omega);omega
  ·by_cases e2:i'=j
   ·rw[if_neg e1,if_pos e2]at he;have:=eH i (by omega);omega
   ·rw[if_neg e1,if_neg e2]at he;exact h.ne i i' (by omega) (by omega) he
theorem NewAt.pat {h:Nat} {W:aa} (H:NewAt h W w cl 4 db mb):yc w (λb=>W.heap.size<=b) ⟨cl,db,mb,λ_=>none,λ_=>.slice none 0 0,λ_=>.slice none 0 0,λ_=>⟨#[]⟩,W.heap.size,λ_ _=>(0,0,0)⟩ (Fg h):=by
 obtain⟨cur,h1,h2,h3,p0,PS,PO,PN⟩:=H.b;have oG:=H.sm.2;have EP:cur=kz ⟨cl,db,mb,λ_=>none,λ_=>.slice none 0 0,λ_=>.slice none 0 0,λ_=>⟨#[]⟩,W.heap.size,λ_ _=>(0,0,0)⟩ (Fg h):=by
  obtain⟨a0,a1,a2⟩:=h3 0 (by decide);obtain⟨b0,b1,b2⟩:=h3 1 (by decide);obtain⟨c0,c1,c2⟩:=h3 2 (by decide);obtain⟨d0,d1,d2⟩:=h3 3 (by decide);rw[UO]at a0 b0 c0 d0;refine Array.ext_getElem? λi=>?_;by_cases hi:i<16
  ·match i,hi with
   |0,_=>exact p0
   |1,_=>exact a0
   |2,_=>exact a1
   |3,_=>exact a2
   |4,_=>exact b0
   |5,_=>exact b1
   |6,_=>exact b2
   |7,_=>exact c0
   |8,_=>exact c1
   |9,_=>exact c2
   |10,_=>exact d0
   |11,_=>exact d1
   |12,_=>exact d2
   |13,_=>exact PS
   |14,_=>exact PO
   |15,_=>exact PN
   |i+16,hi=>exact absurd hi (by omega)
  ·rw[ao (by omega),ao (by show 16<=i;omega)]
 subst EP;refine⟨⟨H.cl,h1⟩,λi hi=>?_,λi hi=>?_,H.ne,λi hi=>⟨rfl,rfl⟩,λi j g hi hj e=>(by cases e),λi j g hi hj e=>(by cases e),⟨ji _,mY.q4p H.sm.1,λh k x _ _ e=>(by cases e),λh k a b _ _ _ _ e=>(by cases e),λh k _ _ e=>(by cases e)⟩,λi hi=>?_⟩
 ·obtain⟨q1,q2,q3,q4⟩:=H.d i hi;exact⟨by show W.heap.size<=db i;omega,q1⟩
 ·obtain⟨q1,q2,q3,q4⟩:=H.d i hi;exact⟨by show W.heap.size<=mb i;omega,Vo q2⟩
 ·obtain⟨q1,q2,q3,q4⟩:=H.d i hi;show mb i≠W.heap.size;omega
def q7e (h:Nat) (w:aa) (e:cg) (w':aa):Prop:= ∃A:PA,e=.returned (.tuple #[.pointer (some ⟨A.cl,0,none⟩),.int .i64 0])/\yc w' (λb=>w.heap.size<=b) A (Fg h)/\ai w.heap.size w w'
section
variable {w:aa}
theorem q48 (h:Nat) (h2:2<=h) (h4:h<=4):az prog 17 #[.int .i64 h] w (q7e h w):=by
 have tC:= @run_makeMap prog;have g1:decide ((h:Int)<2)=false:=by simp;omega
 have g2:decide ((4:Int)<h)=false:=by simp;omega
 go_enter func17,ntmps17;go_wp2;go_loopw [16] (λi wr=>∃j:Nat,j<=4/\i=.int .i64 j/\Hid (∃db mb,NewAt h w wr (w.heap.size+1) j db mb)) (λi _=>4-(intOf i).toNat);case atStart=>
  refine⟨0,by omega,rfl,Hd ⟨λ_=>0,λ_=>0,⟨_,heap_alloc_new' _ _ (by simp),?_,λi hi=>(by omega),rfl,rfl,rfl,rfl⟩,⟨?_,by omega⟩,λi hi=>by omega,λi _ hi=>by omega,by omega,((jg _ _).alloc (ji _) _).alloc (by simp) _⟩⟩
  ·rfl
  ·rw[am _ _ (by simp)];exact bh _ _
 case round=>
  obtain⟨j,hj,rfl,HN⟩:=hrel;by_cases qK:j<4
  ·obtain⟨db,mb,hN⟩:=HN.o;have pV:=Hd hN;clear hN;go_wp2;go_region_with (first|(go_at_call 39;refine Vd.mono ?_;rintro e w2 ⟨rfl,h2⟩;have H2:=Hd (pV.out.made h2);obtain⟨⟨v0,c0⟩,f0⟩:=H2.1.cells (k:=1+j*3) (by omega);obtain⟨⟨v1,c1⟩,f1⟩:=H2.1.cells (k:=1+j*3+1) (by omega);obtain⟨⟨v2,c2⟩,f2⟩:=H2.1.cells (k:=1+j*3+2) (by omega);clear h2))
   all_goals
    go_wp2;go_roundw;case rel=>exact⟨j+1,by omega,rfl,Hd ⟨_,_,H2.1.stored qK H2.2.1 H2.2.2.1 H2.2.2.2.1 H2.2.2.2.2.1 rfl⟩⟩
    case measure=>simp[intOf];omega
  ·obtain rfl:j=4:=by omega
   obtain⟨db,mb,hN⟩:=HN.o;have pV:=Hd hN;clear hN;go_wp2;go_ret2;exact⟨_,rfl,pV.out.pat,pV.out.below⟩
end
theorem NK:∃i,prog.info? 87=some i/\i.zero=some (.agg #[.string ⟨#[]⟩,.string ⟨#[]⟩,.bool false])/\i.size=3/\i.bytes=40:=by
 have h:(prog.info? 87).map (λi=>(i.zero,i.size,i.bytes))=some (some (.agg #[.string ⟨#[]⟩,.string ⟨#[]⟩,.bool false]),3,40):=by kernel_rfl
 obtain⟨i,h1,h2⟩:=aB.1 h;injection h2 with h2 h3;injection h3 with h3 h4;exact⟨i,h1,h2,h3,h4⟩
def Fj (k v:ByteArray) (g:Bool):Chg:=⟨k.data.toList,v.data.toList,g⟩
def csL (L:KV) (cs:List Chg) (k v:ByteArray) (g:Bool):List Chg:=if pJ L k.data.toList v.data.toList g=0 then cs++[Fj k v g]else cs
structure MX (x n:Nat) (pv cv:ac) (ld:ByteArray) (m:Mv) (w:aa):Prop where
 b:w.heap[x]?=some (.cells (zw n pv cv ld m) 135 (0,0))
 r:wE w cv m.cs
section
variable {w w':aa} {cl db mb x n:Nat} {L:KV} {pv cv:ac} {ld:ByteArray} {m:Mv}
theorem ve {m:Nat} {L:KV} {cur:Array ac} (hm:zk w m L) (hb:w.heap[b]?=some (.cells cur ty (0,0))):b≠m:=λe=>by
 obtain⟨es,ck,h,_⟩:=hm;rw[e,h]at hb;cases hb
theorem MX.lt (h:MX x n pv cv ld m w):x<w.heap.size:=(zi h.b).1
theorem MX.below (h:MX x n pv cv ld m w) (hb:ai w.heap.size w w'):MX x n pv cv ld m w':=⟨(hb.block _ h.lt).trans h.b,h.r.block λg hg=>hb.block g (aL h.r g hg).2⟩
theorem MX.but (h:MX x n pv cv ld m w) (hm:zk w mb L) (hb:But (· =mb) w w'):MX x n pv cv ld m w':=⟨(hb.keep _ h.lt (ve hm h.b)).trans h.b,h.r.block λg hg=>hb.keep g (aL h.r g hg).2 (by
 obtain⟨c,hc⟩:=jm h.r hg
 exact ve hm hc)⟩
theorem MX.cells (h:MX x n pv cv ld m w):w.cell? ⟨x,4,none⟩=some cv/\w.cell? ⟨x,12,none⟩=some (.bool m.sealed)/\w.frozen? ⟨x,4,none⟩=false:=⟨by simp[ah,h.b,zw],by simp[ah,h.b,zw],by simp[ay,h.b]⟩
def ChM (cb cl n db mb x:Nat) (pv cv:ac) (ld:ByteArray) (m:Mv) (L:KV) (k v:ByteArray) (g:Bool) (w:aa):Prop:=ChW cb cl n db mb (some ⟨x,0,none⟩) L k v g w/\MX x n pv cv ld m w
theorem VO {W:aa} {v:ByteArray} {g:Bool} {A B:Prop} (h:A/\B/\Hid (ChM W.heap.size cl n db mb x pv cv ld m L k v g w1/\ai W.heap.size W w1)) (hk:k.size<=bB):
  az prog 42 #[.pointer (some ⟨db,0,none⟩),.string k] w1 λe w'=>(e=.returned (.tuple #[sv ((jh L k.data.toList).getD []),.bool (jh L k.data.toList).isSome]))/\ChM W.heap.size cl n db mb x pv cv ld m L k v g w'/\ai W.heap.size W w':=
 (Pz h.2.2.out.1.1.m h.2.2.out.1.1.l k hk).mono λe w' ⟨h1,h2⟩=>⟨h1,⟨h.2.2.out.1.1.below h2,h.2.2.out.1.2.below h2⟩,h.2.2.out.2.trans (h2.mono h.2.2.out.2.size)⟩
def ChB (mb x:Nat) (cv:ac) (b:Nat):Prop:=b=mb\/b=x\/cv.ownBlock=some b
def Ky (w:aa) (mb x n:Nat) (pv cv:ac) (ld:ByteArray) (m:Mv) (L':KV) (fJ:List Chg) (c:Int) (e:cg) (w':aa):Prop:=
 e=.returned (.int .i64 c)/\zk w' mb L'/\(∃iA,MX x n pv iA ld {m with cs:=fJ} w'/\∀b,iA.ownBlock=some b->cv.ownBlock=some b\/w.heap.size<=b)/\But (ChB mb x cv) w w'
theorem Ky.idle {c:Int} (h:MX x n pv cv ld m w') (hm:zk w' mb L) (hb:ai w.heap.size w w'):Ky w mb x n pv cv ld m L m.cs c (.returned (.int .i64 c)) w':=⟨rfl,hm,⟨cv,h,λ_ h=>.inl h⟩,But.of_below hb⟩
theorem qol (k v:ByteArray) (g:Bool) (n:Nat) (hn:n<4) (hk:jD k.data.toList=true) (lZ:jk k.data.toList=n) (jV:k.size<=bB) (hL:L.length<=12) (hp:uK w cl n db mb (some ⟨x,0,none⟩) L) (hx:MX x n pv cv ld m w) (hs:m.sealed=true):
  az prog 40 #[.pointer (some ⟨cl,0,none⟩),.agg #[.string k,.string v,.bool g]] w (Qd (if 12<v.data.toList.length then 3 else 5) w):=by
 have tq:((n:Int)<4):=by omega
 have HX:=Hd hx;have HS:=Hd hs;obtain⟨cd,Eu⟩:∃cd:Int,(if 12<v.data.toList.length then(3:Int)else 5)=cd:=⟨_,rfl⟩
 rw[Eu];have JD:=Hd Eu;clear hx hs Eu;go_enter func40,ntmps40;go_wp2_with (go_at_call 41;refine(GR _ _ hk).mono ?_;rintro e w1 ⟨rfl,hb⟩;rw[lZ])
 obtain⟨kI,oH⟩:=ChW.of hp hb;clear hb hp;have JF:=Hd oH;have vX:=Hd (ag kI (HX.below oH));obtain⟨c0,c1,c2,pd,pv',pm,pl⟩:=id kI;clear oH kI pl;go_region_held3 (λw'=>w'.cell? ⟨cl,1+n*3+1,none⟩=some (.pointer (some ⟨db,0,none⟩))/\w'.cell? ⟨w.heap.size,0,none⟩=some (.string k)/\Hid (ChM w.heap.size cl n db mb x pv cv ld m L k v g w'/\ai w.heap.size w w'))
  (first|exact⟨pd,c0,Hd ⟨⟨vX.1.drew,vX.2.below (aI (jg _ _))⟩,JF.drew⟩⟩|exact⟨(jB.1).1.d,(jB.1).1.c0,jB⟩)
  (first|(go_at_call 42;refine(VO (by assumption) jV).mono ?_;rintro e w2 ⟨rfl,kX⟩;have jB:=Hd kX;clear kX))
 obtain⟨e0,e1,e2,ed,ev,em,el⟩:=jB.1.1;obtain⟨q1,q2,q3⟩:=jB.1.2.cells;rw[HS.o]at q2;clear el;by_cases iX:12<v.size
 ·have HE:Hid (cd=3):=Hd (JD.symm.trans (if_pos (by simpa using iX)));have g1:decide ((12:Int)<v.size)=true:=by simp;omega
  go_wp2;go_ret;exact⟨by rw[HE.o];rfl,jB.2⟩
 ·have HE:Hid (cd=5):=Hd (JD.symm.trans (if_neg (by simpa using iX)));have g1:decide ((12:Int)<v.size)=false:=by simp;omega
  go_wp2;go_ret;exact⟨by rw[HE.o];rfl,jB.2⟩
end
end
section
def poly:Nat:=2197175160
def FJ (x:Nat):Nat:=if x%2=1 then(x/2)^^^poly else x/2
def DJ (x bit:Nat):Nat:=if bit≠x%2 then(x/2)^^^poly else x/2
def Cg:Nat->Nat->Nat
 |0,x=>x
 |k+1,x=>FJ (Cg k x)
def vN (b:Nat):Nat->Nat->Nat
 |0,x=>x
 |k+1,x=>DJ (vN b k x) (b/2^k%2)
theorem q6i (a b:Nat):(a^^^b)/2=(a/2)^^^(b/2):=by
 apply Nat.eq_of_testBit_eq;intro i;simp[Nat.testBit_div_two,Nat.testBit_xor]
theorem jam (a b:Nat):(a^^^b)%2=(a%2+b%2)%2:=by
 have h:=Nat.testBit_xor a b 0;simp only[Nat.testBit_zero]at h;have e1:=aq a;have e2:=aq b;have e3:=aq (a^^^b);rcases e1 with e1|e1<;>rcases e2 with e2|e2<;>rcases e3 with e3|e3<;>simp[e1,e2,e3]at h⊢
theorem Vz (x b:Nat):∀k,Cg k (x^^^b)=vN b k x^^^(b/2^k)
 |0=>by simp[Cg,vN]
 |k+1=>by
  rw[Cg,vN,Vz x b k];have hd:b/2^(k+1)=b/2^k/2:=by rw[bQ,Nat.div_div_eq_div_mul]
  rw[hd];generalize vN b k x=m;generalize b/2^k=c;unfold FJ DJ;rw[jam,q6i];have e1:=aq m;have e2:=aq c;have sw:(m/2^^^c/2)^^^poly=(m/2^^^poly)^^^c/2:=by rw[Nat.xor_assoc,Nat.xor_assoc,Nat.xor_comm (c/2) poly]
  rcases e1 with e1|e1<;>rcases e2 with e2|e2<;>simp[e1,e2,sw]
theorem Uz:poly<2^32:=by decide
theorem quy (h:x<2^32):FJ x<2^32:=by
 unfold FJ;split
 ·exact aP (by omega) Uz
 ·omega
theorem qy7 (h:x<2^32):DJ x b<2^32:=by
 unfold DJ;split
 ·exact aP (by omega) Uz
 ·omega
theorem OY {x:Nat} (h:x<2^32):∀k,Cg k x<2^32
 |0=>h
 |k+1=>quy (OY h k)
theorem WM {x b:Nat} (h:x<2^32):∀k,vN b k x<2^32
 |0=>h
 |k+1=>qy7 (WM h k)
def FL (x:Nat) (b:UInt8):Nat:=Cg 8 (x^^^b.toNat)
theorem qqi (x:Nat) (b:UInt8):FL x b=vN b.toNat 8 x:=by
 unfold FL;rw[Vz];have:b.toNat/2^8=0:=Nat.div_eq_of_lt b.toNat_lt;rw[this,Nat.xor_zero]
theorem wL (b:UInt8):b.toNat<256:=b.toNat_lt
theorem quw {b:UInt8} (h:x<2^32):FL x b<2^32:=OY (aP h (by have:=wL b;omega)) 8
def rY (l:List UInt8):Nat:=l.foldl FL 4294967295
theorem Uk:∀(l:List UInt8) (x:Nat),x<2^32->l.foldl FL x<2^32
 |[],_,h=>h
 |_::l,_,h=>Uk l _ (quw h)
theorem H7 (l:List UInt8):rY l<2^32:=Uk l _ (by decide)
theorem Xb (l:List UInt8) (b:UInt8):rY (l++[b])=FL (rY l) b:=by simp[rY]
def chk (l:List UInt8):Nat:=4294967295-rY l
theorem Nv (l:List UInt8):chk l<2^32:=by unfold chk;omega
def b8 (n:Nat):UInt8:=UInt8.ofNat n
def iJ (n:Nat):List UInt8:=if h:n<128 then[b8 n]else b8 (128+n%128)::iJ (n/128)
termination_by n
decreasing_by omega
theorem D8 (h:n<128):iJ n=[b8 n]:=by rw[iJ,dif_pos h]
theorem FT (h:¬n<128):iJ n=b8 (128+n%128)::iJ (n/128):=by rw[iJ,dif_neg h]
def nA (s:List UInt8):List UInt8:=iJ s.length++s
def oh:Nat->Bool->Nat->Nat->List UInt8->Option (Nat×List UInt8)
 |0,_,_,_,_=>none
 |_+1,_,_,_,[]=>none
 |k+1,first,a,m,b::s=>if !first&&b.toNat==0 then none else if b.toNat<128 then some (a+b.toNat*m,s)else oh k false (a+b.toNat%128*m) (m*128) s
def j6 (s:List UInt8):Option (Nat×List UInt8):=oh 4 true 0 1 s
def j5 (s:List UInt8):Option (List UInt8×List UInt8):=(j6 s).bind λp=>if p.2.length<p.1 then none else some (p.2.take p.1,p.2.drop p.1)
theorem UD:∀(k:Nat) (first:Bool) (a m:Nat) (s:List UInt8) (n:Nat) (r:List UInt8),oh k first a m s=some (n,r)->∃d,n=a+d*m/\s=iJ d++r/\(first=false->0<d)/\d<128^k
 |0,_,_,_,_,_,_,h=>by simp[oh]at h
 |_+1,_,_,_,[],_,_,h=>by simp[oh]at h
 |k+1,first,a,m,b::s,n,r,h=>by
  rw[oh]at h;split at h
  ·cases h
  ·rename_i hb;split at h
   ·rename_i h1;simp only[Option.some.injEq,Prod.mk.injEq]at h;obtain⟨rfl,rfl⟩:=h;refine⟨b.toNat,rfl,?_,λhf=>?_,?_⟩
    ·rw[D8 h1];simp[b8]
    ·subst hf;simp at hb;omega
    ·calc b.toNat<128:=h1
      _=128^1:=rfl
      _<=128^(k+1):=cj (by decide) (by omega)
   ·rename_i h1;obtain⟨d,h2,h3,h4,h5⟩:=UD k false _ _ s n r h;have gq:=wL b;refine⟨b.toNat%128+128*d,?_,?_,λ_=>by have:=h4 rfl;omega,?_⟩
    ·have e0:d*(m*128)=128*d*m:=by rw[Nat.mul_comm m 128,<-Nat.mul_assoc,Nat.mul_comm d 128]
     rw[h2,e0,Nat.add_mul];omega
    ·have hp:=h4 rfl;rw[FT (by omega),h3];have e1:(b.toNat%128+128*d)%128=b.toNat-128:=by omega
     have e2:(b.toNat%128+128*d)/128=d:=by omega
     rw[e1,e2];have e3:b8 (128+(b.toNat-128))=b:=by
      have:128+(b.toNat-128)=b.toNat:=by omega
      rw[this];simp[b8]
     rw[e3];rfl
    ·rw[bQ];omega
theorem Vb:∀(k:Nat) (first:Bool) (a m d:Nat) (r:List UInt8),d<128^(k+1)->(first=false->0<d)->oh (k+1) first a m (iJ d++r)=some (a+d*m,r)
 |k,first,a,m,d,r,hd,hf=>by
  by_cases h:d<128
  ·rw[D8 h];have e:(b8 d).toNat=d:=by simp[b8];omega
   show oh (k+1) first a m (b8 d::r)=_
   rw[oh,e,if_neg (by cases first<;>simp;have:=hf rfl;omega),if_pos h]
  ·rw[FT h];have e:(b8 (128+d%128)).toNat=128+d%128:=by simp[b8];omega
   show oh (k+1) first a m (b8 (128+d%128)::(iJ (d/128)++r))=_
   rw[oh,e,if_neg (by simp),if_neg (by omega)];match k,hd with
   |0,hd=>omega
   |k+1,hd=>
    rw[Vb k false _ _ (d/128) r (by rw[bQ]at hd;exact Nat.div_lt_of_lt_mul (by omega)) (λ_=>by omega)];have e2:(128+d%128)%128=d%128:=by omega
    rw[e2];have e3:d%128*m+d/128*(m*128)=d*m:=by
     have:d=d%128+d/128*128:=by omega
     calc d%128*m+d/128*(m*128)=(d%128+d/128*128)*m:=by rw[Nat.add_mul,Nat.mul_assoc,Nat.mul_comm 128 m]
      _=d*m:=by rw[<-this]
    rw[<-e3,Nat.add_assoc]
theorem Ox {r:List UInt8} (h:j6 s=some (n,r)):s=iJ n++r/\n<268435456:=by
 obtain⟨d,h1,h2,_,h4⟩:=UD 4 true 0 1 s n r h;have:n=d:=by omega
 subst this;exact⟨h2,h4⟩
theorem OP (h:n<268435456) (r:List UInt8):j6 (iJ n++r)=some (n,r):=by
 have:=Vb 3 true 0 1 n r h (λe=>by cases e);simpa[j6]using this
theorem qvd {t r:List UInt8} (h:j5 s=some (t,r)):s=nA t++r/\t.length<268435456:=by
 unfold j5 at h;cases hn:j6 s with
 |none=>rw[hn]at h;cases h
 |some p=>
  obtain⟨n,q⟩:=p;rw[hn]at h;simp only[aM]at h;split at h
  ·cases h
  ·rename_i hl;simp only[Option.some.injEq,Prod.mk.injEq]at h;obtain⟨rfl,rfl⟩:=h;obtain⟨h1,h2⟩:=Ox hn;have hlen:(q.take n).length=n:=by rw[List.length_take];omega
   refine⟨?_,by omega⟩;unfold nA;rw[hlen,h1,cy,bq]
theorem qqv {t:List UInt8} (h:t.length<268435456) (r:List UInt8):j5 (nA t++r)=some (t,r):=by
 unfold j5 nA;rw[cy,OP h];simp
structure Fr where
 kind:Nat
 qc:Nat
 id:Nat
 n:Nat
 load:List UInt8
def le4 (x:Nat):List UInt8:=[b8 x,b8 (x/256),b8 (x/65536),b8 (x/16777216)]
def Fr.body (f:Fr):List UInt8:=[b8 f.kind,b8 f.qc]++iJ f.id++iJ f.n++nA f.load
def Fr.bytes (f:Fr):List UInt8:=f.body++le4 (chk f.body)
structure Fr.Ok (f:Fr):Prop where
 kind:f.kind<256
 qc:f.qc<256
 id:f.id<268435456
 n:f.n<268435456
 load:f.load.length<268435456
def parse:List UInt8->Option Fr
 |k::sh::r=>(j6 r).bind λp=>(j6 p.2).bind λq=>(j5 q.2).bind λt=>if t.2=[]then some ⟨k.toNat,sh.toNat,p.1,q.1,t.1⟩else none
 |_=>none
def mq (s:List UInt8):Option Fr:=if s.length<4 then none else if s.drop (s.length-4)=le4 (chk (s.take (s.length-4)))then parse (s.take (s.length-4))else none
theorem q14 (b:UInt8):b8 b.toNat=b:=by simp[b8]
theorem zD (h:n<256):(b8 n).toNat=n:=by simp[b8];omega
theorem NW {f:Fr} (h:parse s=some f):s=f.body/\f.Ok:=by
 unfold parse at h;split at h
 ·rename_i k sh r;cases h1:j6 r with
  |none=>rw[h1]at h;cases h
  |some p=>
   obtain⟨id,r1⟩:=p;rw[h1]at h;simp only[aM]at h;cases h2:j6 r1 with
   |none=>rw[h2]at h;cases h
   |some q=>
    obtain⟨n,r2⟩:=q;rw[h2]at h;simp only[aM]at h;cases h3:j5 r2 with
    |none=>rw[h3]at h;cases h
    |some t=>
     obtain⟨t,r3⟩:=t;rw[h3]at h;simp only[aM]at h;split at h
     ·rename_i h4;cases h;subst h4;obtain⟨a1,a2⟩:=Ox h1;obtain⟨b1,b2⟩:=Ox h2;obtain⟨c1,c2⟩:=qvd h3;refine⟨?_,wL k,wL sh,a2,b2,c2⟩;rw[a1,b1,c1];simp[Fr.body,q14]
     ·cases h
 ·cases h
theorem qv5 {f:Fr} (h:f.Ok):parse f.body=some f:=by
 have e:f.body=b8 f.kind::b8 f.qc::(iJ f.id++(iJ f.n++(nA f.load++[]))):=by simp[Fr.body]
 rw[e];unfold parse;simp only[OP h.id,OP h.n,qqv h.load,aM,if_true];rw[zD h.kind,zD h.qc]
theorem qto {f:Fr} (h:f.Ok):mq f.bytes=some f:=by
 have hl:f.bytes.length=f.body.length+4:=by simp[Fr.bytes,le4]
 have e1:f.bytes.length-4=f.body.length:=by omega
 unfold mq;rw[if_neg (by omega),e1];have e2:f.bytes.take f.body.length=f.body:=by simp[Fr.bytes]
 have e3:f.bytes.drop f.body.length=le4 (chk f.body):=by simp[Fr.bytes]
 rw[e2,e3,if_pos rfl,qv5 h]
theorem He {f:Fr} (h:mq s=some f):s=f.bytes/\f.Ok:=by
 unfold mq at h;split at h
 ·cases h
 ·split at h
  ·rename_i hd;obtain⟨h1,h2⟩:=NW h;refine⟨?_,h2⟩;unfold Fr.bytes;rw[<-h1,<-hd,bq]
  ·cases h
theorem qz4 (hl:¬s.length<4):mq s=(parse (s.take (s.length-4))).bind λf=>if f.bytes=s then some f else none:=by
 cases hp:parse (s.take (s.length-4))with
 |none=>
  unfold mq;rw[if_neg hl,hp];split<;>rfl
 |some f=>
  obtain⟨h1,h2⟩:=NW hp;simp only[aM];by_cases hb:f.bytes=s
  ·rw[if_pos hb,<-hb,qto h2]
  ·rw[if_neg hb];cases hr:mq s with
   |none=>rfl
   |some g=>
    exfalso;unfold mq at hr;rw[if_neg hl]at hr;split at hr
    ·rename_i hd;apply hb;unfold Fr.bytes;rw[<-h1,<-hd,bq]
    ·cases hr
end
section
open Go.RowKit Go.Maps
theorem qq7:4294967295&&&poly=poly:=by decide
theorem qr6 (y:Nat) (hy:y<2^32):bits .xor .u32 ((y:Int)/2) (bits .and .u32 (-bits .and .u32 (y:Int) 1%4294967296) 2197175160)=((FJ y:Nat):Int):=by
 have e1:bits .and .u32 (y:Int) 1=((y%2:Nat):Int):=by
  have:=u32_and_nat y 1 (by omega) (by decide);rw[show((1:Nat):Int)=1 from rfl,nat_mask1]at this;exact this
 rw[e1];have e2:((y:Int)/2)=((y/2:Nat):Int):=by omega
 rw[e2];unfold FJ;by_cases h:y%2=1
 ·rw[h,if_pos rfl];have e3:(-((1:Nat):Int)%4294967296)=((4294967295:Nat):Int):=by decide
  rw[e3];have e4:=u32_and_nat 4294967295 poly (by decide) (by decide);rw[qq7]at e4;rw[show(2197175160:Int)=((poly:Nat):Int)from rfl,e4];exact u32_xor_nat _ _ (by omega) (by decide)
 ·have h0:y%2=0:=by omega
  rw[h0,if_neg (by decide)];have e3:(-((0:Nat):Int)%4294967296)=((0:Nat):Int):=by decide
  rw[e3];have e4:=u32_and_nat 0 poly (by decide) (by decide);rw[Nat.zero_and]at e4;rw[show(2197175160:Int)=((poly:Nat):Int)from rfl,e4];have e5:=u32_xor_nat (y/2) 0 (by omega) (by decide);rw[Nat.xor_zero]at e5;exact e5
theorem jal (n:Nat) (h:n<2^32):4294967295^^^n=4294967295-n:=by
 apply Nat.eq_of_testBit_eq;intro i;rw[Nat.testBit_xor,show(4294967295:Nat)=2^32-1 from rfl,Nat.testBit_two_pow_sub_one,show 2^32-1-n=2^32-(n+1) by omega,Nat.testBit_two_pow_sub_succ h];by_cases hi:i<32
 ·simp[hi]
 ·have:n.testBit i=false:=Nat.testBit_lt_two_pow (xll h (cj (by decide) (by omega)));simp[hi,this]
theorem OZ (n:Nat) (h:n<9223372036854775808):IntKind.i64.wrap (n:Int)=(n:Int):=by rw[bL];omega
theorem qsy (a b:Nat) (ha:a<9223372036854775808) (hb:b<9223372036854775808):bits .and .i64 (a:Int) (b:Int)=((a&&&b:Nat):Int):=by
 show IntKind.i64.wrap ((bi 64 (a:Int)&&&bi 64 (b:Int)).toNat:Int)=_;rw[BitVec.toNat_and,bN a (by omega),bN b (by omega)];exact OZ _ (cu Nat.and_le_left ha)
theorem qsz (a b:Nat) (ha:a<2^63) (hb:b<2^63):bits .xor .i64 (a:Int) (b:Int)=((a^^^b:Nat):Int):=by
 show IntKind.i64.wrap ((bi 64 (a:Int)^^^bi 64 (b:Int)).toNat:Int)=_;rw[BitVec.toNat_xor,bN a (by omega),bN b (by omega)];exact OZ _ (aP ha hb)
theorem qvn (a b:Nat) (ha:a<2^63) (hb:b<2^63):bits .or .i64 (a:Int) (b:Int)=((a|||b:Nat):Int):=by
 show IntKind.i64.wrap ((bi 64 (a:Int)|||bi 64 (b:Int)).toNat:Int)=_;rw[BitVec.toNat_or,bN a (by omega),bN b (by omega)];exact OZ _ (Nat.or_lt_two_pow ha hb)
theorem Ui (y:Nat) (hy:y<2^32):bits .and .i64 (y:Int) 1=((y%2:Nat):Int):=by
 have:=qsy y 1 (by omega) (by decide);rw[nat_mask1]at this;exact this
theorem q8i (b m:Nat) (hb:b<256):bits .and .i64 (wrap64 ((b:Int)/2^m)) 1=((b/2^m%2:Nat):Int):=by
 have e:((b:Int)/2^m)=((b/2^m:Nat):Int):=by
  rw[Int.natCast_ediv,Int.natCast_pow];rfl
 have hl:b/2^m<256:=cu (Nat.div_le_self _ _) hb;rw[e];generalize b/2^m=q at*;have hw:wrap64 ((q:Nat):Int)=((q:Nat):Int):=by unfold wrap64;omega
 rw[hw];exact Ui _ (by omega)
theorem q3o (y:Nat) (hy:y<2^32):wrap64 ((y:Int)/2)=((y/2:Nat):Int):=by
 have e:((y:Int)/2)=((y/2:Nat):Int):=by omega
 rw[e];unfold wrap64;omega
theorem qzf (y:Nat) (hy:y<2^32):bits .xor .i64 ((y:Nat):Int) 2197175160=((y^^^poly:Nat):Int):=qsz y poly (by omega) (by decide)
section
variable {w:aa}
theorem Uw (s:ByteArray) (hs:s.size<=4611686018427387904):az prog 117 #[.string s] w λe w'=>e=.returned (.int .u32 (chk s.data.toList:Nat))/\w'=w:=by
 go_enter func117,ntmps117;go_wp2;go_loop [3,4,7] (λx y i=>∃k:Nat,k<=s.size/\i=.int .i64 k/\x=.int .u32 (rY (s.data.toList.take k):Nat)) (λ_ _ i=>s.size-(intOf i).toNat);case atStart=>exact⟨0,xzl _,rfl,rfl⟩
 case round=>
  obtain⟨k,hk,rfl,rfl⟩:=hrel;by_cases eH:k<s.size
  ·obtain⟨X,hX⟩:∃X,rY (s.data.toList.take k)=X:=⟨_,rfl⟩
   have Jg:X<2^32:=hX▸H7 _;have hb:s[k].toNat<256:=wL _;have e0:bits .xor .u32 (X:Int) ((s[k].toNat:Int)%4294967296)=((X^^^s[k].toNat:Nat):Int):=by
    rw[show((s[k].toNat:Int)%4294967296)=((s[k].toNat:Nat):Int) by omega];exact u32_xor_nat _ _ (by omega) (by omega)
   have HS:Hid (rY (s.data.toList.take (k+1))=Cg 8 (X^^^s[k].toNat)):=Hd (by
    rw[bj (by simpa using eH),Xb,hX];rfl)
   have HY:=Hd (aP (n:=32) Jg (show s[k].toNat<2^32 by omega));rw[hX];have HX:=Hd hX;clear hX Jg hb;go_wp2;generalize (X^^^s[k].toNat)=Y at*;go_loop [3,16,18,19,20,21,22,23,24,25,17] (λx j _ _ _ _ _ _ _ _ _=>∃m:Nat,m<=8/\j=.int .i64 m/\x=.int .u32 (Cg m Y:Nat)) (λ_ j _ _ _ _ _ _ _ _ _=>8-(intOf j).toNat);case atStart=>exact⟨0,xzl _,rfl,rfl⟩
   case round=>
    obtain⟨m,hm,rfl,rfl⟩:=hrel;by_cases hm8:m<8
    ·go_wp2;go_round;case rel=>
      refine⟨m+1,by omega,by go_num,?_⟩;rw[qr6 _ (OY HY.o m)];rfl
     case measure=>simp[intOf];omega
    ·obtain rfl:m=8:=by omega
     go_wp2;go_round;case rel=>exact⟨k+1,by omega,by go_num,by rw[HS.o]⟩
     case measure=>simp[intOf];omega
  ·obtain rfl:k=s.size:=by omega
   go_wp2;go_ret;refine⟨?_,rfl⟩;have hl:s.data.toList.take s.size=s.data.toList:=bR (by simp);have h1:bits .xor .u32 IntKind.u32.max (rY s.data.toList:Nat)=((chk s.data.toList:Nat):Int):=by
    have:=u32_xor_nat 4294967295 (rY s.data.toList) (by decide) (H7 _);rw[jal _ (H7 _)]at this;exact this
   rw[hl,h1];rfl
theorem q5b (s:ByteArray) (hs:s.size<=4611686018427387904):az prog 126 #[.string s] w λe w'=>e=.returned (.int .i64 (chk s.data.toList:Nat))/\w'=w:=by
 go_enter func126,ntmps126;go_wp2;go_loop [3,4,5,6,7] (λx i _ _ _=>∃k:Nat,k<=s.size/\i=.int .i64 k/\x=.int .i64 (rY (s.data.toList.take k):Nat)) (λ_ i _ _ _=>s.size-(intOf i).toNat);case atStart=>exact⟨0,xzl _,rfl,rfl⟩
 case round=>
  obtain⟨k,hk,rfl,rfl⟩:=hrel;by_cases eH:k<s.size
  ·obtain⟨X,hX⟩:∃X,rY (s.data.toList.take k)=X:=⟨_,rfl⟩
   have Jg:X<2^32:=hX▸H7 _;have hb:s[k].toNat<256:=wL _;have HS:Hid (rY (s.data.toList.take (k+1))=vN s[k].toNat 8 X):=Hd (by
    rw[bj (by simpa using eH),Xb,hX,qqi];rfl)
   have HY:=Hd Jg;rw[hX];have HX:=Hd hX;clear hX Jg hb;go_wp2;go_loop [3,5,6,7] (λx j _ _=>∃m:Nat,m<=8/\j=.int .i64 m/\x=.int .i64 (vN s[k].toNat m X:Nat)) (λ_ j _ _=>8-(intOf j).toNat);case atStart=>exact⟨0,xzl _,rfl,rfl⟩
   case round=>
    obtain⟨m,hm,rfl,rfl⟩:=hrel;by_cases hm8:m<8
    ·have hy:=WM (b:=s[k].toNat) HY.o m;have eA:=q8i s[k].toNat m (wL _);have eB:=Ui _ hy;have eC:=q3o _ hy;have eD:=qzf (vN s[k].toNat m X/2) (by omega);have hc:vN s[k].toNat (m+1) X=DJ (vN s[k].toNat m X) (s[k].toNat/2^m%2):=rfl;have HC:=Hd hc;generalize vN s[k].toNat m X=Y at*;generalize s[k].toNat/2^m%2=B at*;clear hc;by_cases ul:B=Y%2
     ·have g1:(B !=Y%2)=false:=by simpa using ul
      have g2:(((B:Nat):Int) !=((Y%2:Nat):Int))=false:=by simp[ul]
      have HB:=Hd ul;clear ul hy;go_wp2;go_round;case rel=>exact⟨m+1,by omega,by go_num,by rw[HC.o];unfold DJ;rw[if_neg (λe=>e HB.o)];first|rw[eC]|(unfold wrap64;congr 1;omega)⟩
      case measure=>simp[intOf];omega
     ·have g1:(B !=Y%2)=true:=by simpa using ul
      have g2:(((B:Nat):Int) !=((Y%2:Nat):Int))=true:=by simp;omega
      have HB:=Hd ul;clear ul hy;go_wp2;go_round;case rel=>exact⟨m+1,by omega,by go_num,by rw[HC.o];unfold DJ;rw[if_pos HB.o,<-eD,show((Y:Int)/2)=((Y/2:Nat):Int) by omega]⟩
      case measure=>simp[intOf];omega
    ·obtain rfl:m=8:=by omega
     go_wp2;go_round;case rel=>exact⟨k+1,by omega,by go_num,by rw[HS.o]⟩
     case measure=>simp[intOf];omega
  ·obtain rfl:k=s.size:=by omega
   have hl:s.data.toList.take s.size=s.data.toList:=bR (by simp);have hf:=H7 s.data.toList;have h1:(4294967295:Int)-(rY s.data.toList:Nat)=((chk s.data.toList:Nat):Int):=by unfold chk;omega
   rw[hl];have H1:=Hd h1;have hc:(0:Int)<=(rY s.data.toList:Nat):=by omega
   clear h1;generalize rY s.data.toList=Z at*;go_wp2;go_ret;exact⟨by rw[<-H1.o];rfl,rfl⟩
end
theorem AV:∀(k n:Nat),n<128^(k+1)->(iJ n).length<=k+1
 |0,n,h=>by rw[D8 (by omega)];simp
 |k+1,n,h=>by
  by_cases hs:n<128
  ·rw[D8 hs];simp
  ·rw[FT hs,cC];have:=AV k (n/128) (Nat.div_lt_of_lt_mul (by rw[bQ]at h;omega));omega
theorem jjh:∀x,x<256->x|||128=128+x%128:=by decide
theorem q4w (m:Nat):bits .or .u8 ((m:Int)%256) 128=(((b8 (128+m%128)).toNat:Nat):Int):=by
 have e:((m:Int)%256)=((m%256:Nat):Int):=by omega
 rw[e];have:=u8_or_nat (m%256) 128 (by omega) (by decide);rw[show((128:Nat):Int)=128 from rfl]at this;rw[this,jjh _ (by omega),zD (by omega)];omega
def bv (b:UInt8):ac:=.int .u8 (b.toNat:Int)
theorem q2c:∃i,prog.info? 5=some i/\i.zero=some (.int .u8 0)/\i.size=1/\i.bytes=1:=by
 have h:(prog.info? 5).map (λi=>(i.zero,i.size,i.bytes))=some (some (.int .u8 0),1,1):=by kernel_rfl
 obtain⟨i,h1,h2⟩:=aB.1 h;injection h2 with h2 h3;injection h3 with h3 h4;exact⟨i,h1,h2,h3,h4⟩
theorem qy5 {base:Nat} {v:ac} (h:w.ownsRow base 5 1 v l.length (l.map bv)):(convert 139 9 v).run prog w=.ok (.string ⟨l.toArray⟩) w:=by
 rcases h.2 with⟨rfl,hz⟩|⟨g,cap,cur,rfl,_⟩
 ·have:l=[]:=List.length_eq_zero_iff.1 hz;subst this;show Sem.run prog (convert 139 9 (.slice none 0 0)) w=.ok (.string ⟨#[]⟩) w;kernel_rfl
 ·exact aQ (P:=prog) _ 139 9 5 ⟨g,0,none⟩ cap l underlying139 underlying5 underlying9 (λj hj=>by
   have:=h.cells rfl j (bv l[j]) (by simp[hj])
   rwa [aO]at this⊢)
structure BO (N:Nat) (w:aa) (l:List UInt8) (m:Nat) (v:ac) (wr:aa):Prop where
 le:m<=N
 eq:iJ N=l++iJ m
 own:wr.ownsRow w.heap.size 5 1 v l.length (l.map bv)
 below:ai w.heap.size w wr
theorem BO.len {wr:aa} {v:ac} (h:BO N w l m v wr) (hN:N<9223372036854775808):l.length<=9:=by
 have:=AV 8 N (by simpa using hN);rw[h.eq,al]at this;have:0<(iJ m).length:=by
  by_cases hs:m<128
  ·rw[D8 hs];simp
  ·rw[FT hs];simp
 omega
theorem YR (w:aa) (a:ac) (ty:bA):∀(j:Nat) (u:ac),[a][j]?=some u->(w.alloc (.cells #[a] ty)).cell? ((⟨w.heap.size,0,none⟩:Addr).add j)=some u:=λj u hj=>by
 rw[aO,bE];match j,hj with
 |0,hj=>simp at hj;subst hj;go_simp
theorem zq {base size:Nat} {v:ac} (h:w.ownsRow base ty size v n xs):∃sa cp,v=.slice sa n cp:=by
 rcases h.2 with⟨rfl,hz⟩|⟨g,cap,cur,rfl,_⟩
 ·exact⟨none,0,by rw[hz]⟩
 ·exact⟨_,_,rfl⟩
theorem BO.last {wr:aa} {v v2:ac} {o:Obj} (h:BO N w l m v wr) (hm:m<128) (hr:w2.ownsRow w.heap.size 5 1 v2 (l.length+1) (l.map bv++[.int .u8 (m:Int)])) (hg:(wr.alloc o).grownBy w2 v.ownBlock):
  (convert 139 9 v2).run prog w2=.ok (.string ⟨(iJ N).toArray⟩) w2/\ai w.heap.size w w2:=by
 refine⟨?_,(h.below.alloc h.below.size o).grown hg (by have:=h.below.size;simp;omega) λb hb=>(h.own.lt b hb).1⟩;have e:iJ N=l++[b8 m]:=by rw[h.eq,D8 hm]
 have eb:bv (b8 m)=.int .u8 (m:Int):=by
  unfold bv;rw[zD (by omega)]
 rw[e];refine qy5 (base:=w.heap.size) ?_;rw[al,List.map_append,cT,dc,eb];exact hr
theorem BO.more {wr:aa} {v v2:ac} {o:Obj} (h:BO N w l m v wr) (hm:¬m<128) (hr:w2.ownsRow w.heap.size 5 1 v2 (l.length+1) (l.map bv++[.int .u8 (((b8 (128+m%128)).toNat:Nat):Int)])) (hg:(wr.alloc o).grownBy w2 v.ownBlock):
  BO N w (l++[b8 (128+m%128)]) (m/128) v2 w2:=by
 refine⟨xlt (Nat.div_le_self _ _) h.le,?_,?_,(h.below.alloc h.below.size o).grown hg (by have:=h.below.size;simp;omega) λb hb=>(h.own.lt b hb).1⟩
 ·rw[h.eq,FT hm];simp
 ·rw[al,List.map_append];exact hr
section
variable {w:aa}
theorem Pq (N:Nat) (hN:N<9223372036854775808):az prog 113 #[.int .i64 N] w λe w'=>e=.returned (.string ⟨(iJ N).toArray⟩)/\ai w.heap.size w w':=by
 obtain⟨pi,l1,l2,l3,l4⟩:=q2c;have HI:=Hd (ag l1 (ag l2 (ag l3 l4)));have HN:=Hd hN;clear l1 l2 l3 l4;go_enter func113,ntmps113;go_wp2;go_loopw [0,3,4,5,6,7,8,9,10,11,12,13] (λi v _ _ _ _ _ _ _ _ _ _ wr=>∃(l:List UInt8) (m:Nat) (sa:Option Addr) (cp:Nat),i=.int .i64 m/\v=.slice sa l.length cp/\Hid (BO N w l m (.slice sa l.length cp) wr)) (λi _ _ _ _ _ _ _ _ _ _ _ _=>(intOf i).toNat);case atStart=>exact⟨[],N,none,0,rfl,rfl,Hd ⟨ji _,rfl,aH _ _ _ _,jg _ _⟩⟩
 case round=>
  obtain⟨l,m,sa,cp,rfl,rfl,HM⟩:=hrel;have hlen:=HM.len HN.o;have zQ:m<=9223372036854775807:=by have:=HM.le;have:=HN.o;omega
  by_cases eH:127<m
  ·have eA:=q4w m;have fC:=HM.below.size;go_wp2_with (at_builtin;(refine cA _ rfl (.tmp 8) (.tmp 12) 139 rfl w.heap.size 5 pi _ 1 1 underlying139 HI.1 HI.2.1 HI.2.2.1 HI.2.2.2 rfl (by decide) (.slice sa l.length cp) l.length (l.map bv) rfl (HM.own.alloc _) ⟨wr.heap.size,0,none⟩ 1 1 [.int .u8 (((b8 (128+m%128)).toNat:Nat):Int)] rfl rfl (YR wr _ _) (by intro u hu;simp at hu;subst hu;rfl) (by unfold bB;omega) (by omega) (by simp;omega) ?_;intro v2 w2 fe gL _;obtain⟨jC,jH,iI⟩:=zq fe;have H2:=Hd (HM.more (by omega) fe gL);rw[iI]at H2;rw[iI];clear fe gL iI))
   go_roundw;case rel=>exact⟨l++[b8 (128+m%128)],m/128,jC,jH,by simp,by simp,by simpa using H2⟩
   case measure=>simp[intOf];omega
  ·have fC:=HM.below.size;go_wp2_with (at_builtin;(refine cA _ rfl (.tmp 14) (.tmp 17) 139 rfl w.heap.size 5 pi _ 1 1 underlying139 HI.1 HI.2.1 HI.2.2.1 HI.2.2.2 rfl (by decide) (.slice sa l.length cp) l.length (l.map bv) rfl (HM.own.alloc _) ⟨wr.heap.size,0,none⟩ 1 1 [.int .u8 (m:Int)] rfl rfl (YR wr _ _) (by intro u hu;simp at hu;subst hu;rfl) (by unfold bB;omega) (by omega) (by simp;omega) ?_;intro v2 w2 fe gL _;obtain⟨jC,jH,iI⟩:=zq fe;obtain⟨jg9,gq⟩:=HM.last (by omega) fe gL;have iC:=Hd gq;rw[iI]at jg9;rw[iI];clear fe gL iI gq))
   go_ret;exact⟨rfl,iC.o⟩
theorem jez (s:ByteArray) (hs:s.size<=140737488355328):az prog 114 #[.string s] w λe w'=>e=.returned (.string ⟨(nA s.data.toList).toArray⟩)/\ai w.heap.size w w':=by
 have hl:(⟨(nA s.data.toList).toArray⟩:ByteArray)=(⟨(iJ s.size).toArray⟩:ByteArray)++s:=by
  apply ByteArray.ext;rw[bw];unfold nA;apply cM;simp
 have hn:(⟨(iJ s.size).toArray⟩:ByteArray).size<=9:=by
  have:=AV 8 s.size (by omega);show(iJ s.size).toArray.size<=9;simpa using this
 rw[hl];have HC:=Pq (w:=w) s.size (by omega);have HC:=Hd HC;clear hl;generalize (⟨(iJ s.size).toArray⟩:ByteArray)=nb at*;go_enter func114,ntmps114;go_wp2_with (go_at_call 113;refine HC.mono ?_;rintro e w1 ⟨rfl,iq⟩;have lH:=Hd iq;clear iq)
 go_ret;exact⟨rfl,lH.o⟩
end
theorem Y0 (W:aa) (g:Nat) (x:Int) (b:UInt8) (hx:x=b.toNat) (h:W.cell? ⟨g,0,none⟩=some (.int .u8 x)):(convert 139 9 (.slice (some ⟨g,0,none⟩) 1 1)).run prog W=.ok (.string ⟨#[b]⟩) W:=
 aQ (P:=prog) _ 139 9 5 ⟨g,0,none⟩ 1 [b] underlying139 underlying5 underlying9 (λj hj=>by
  have:j=0:=by simpa using hj
  subst this
  rw[aO,h,hx];rfl)
theorem jgo {W:aa} (hb:ai W.heap.size W w1):(∀b o,b<W.heap.size->w1.cell? ⟨b,o,none⟩=W.cell? ⟨b,o,none⟩)/\(∀b o,b<W.heap.size->w1.frozen? ⟨b,o,none⟩=W.frozen? ⟨b,o,none⟩):=
 ⟨λb o h=>hb.cell (p:=⟨b,o,none⟩) h,λb o h=>hb.frozen (p:=⟨b,o,none⟩) h⟩
def Kv (N:Nat) (w:aa) (e:cg) (w':aa):Prop:=e=.returned (.string ⟨(iJ N).toArray⟩)/\ai w.heap.size w w'
theorem Ng:∀(N:Nat) (w:aa),N<9223372036854775808->az prog 97 #[.int .i64 N] w (Kv N w):=by
 intro N;induction N using Nat.strongRecOn with
 |_ N ih=>
  intro w hN;by_cases h:N<128
  ·have Et:=Y0 (w.alloc (.cells #[.int .u8 (N:Int)] 5)) w.heap.size (N:Int) (b8 N) (by rw[zD (by omega)]) (by go_simp);have hr:(⟨(iJ N).toArray⟩:ByteArray)=⟨#[b8 N]⟩:=by rw[D8 h]
   unfold Kv;rw[hr];clear hr;go_enter func97,ntmps97;go_wp2;go_ret;exact⟨rfl,(jg _ _).alloc (ji _) _⟩
  ·obtain⟨M,hM⟩:∃M,N/128=M:=⟨_,rfl⟩
   obtain⟨r,hR⟩:∃r,N%128=r:=⟨_,rfl⟩
   have xN:r<128:=by omega
   have HI:=Hd (λw=>ih M (by omega) w (by omega));have hb:(b8 (128+r)).toNat=128+r:=zD (by omega);have Et:∀(W:aa) (g:Nat),W.cell? ⟨g,0,none⟩=some (.int .u8 (128+(r:Int)))->(convert 139 9 (.slice (some ⟨g,0,none⟩) 1 1)).run prog W=.ok (.string ⟨#[b8 (128+r)]⟩) W:=λW g hW=>Y0 W g _ (b8 (128+r)) (by rw[hb];omega) hW;have hr:(⟨(iJ N).toArray⟩:ByteArray)=(⟨#[b8 (128+r)]⟩:ByteArray)++(⟨(iJ M).toArray⟩:ByteArray):=by
    rw[FT h,hM,hR];apply ByteArray.ext;rw[bw];apply cM;simp
   have hn:(⟨(iJ M).toArray⟩:ByteArray).size<=9:=by
    have:=AV 8 M (by omega);show(iJ M).toArray.size<=9;simpa using this
   have En:(⟨#[b8 (128+r)]⟩:ByteArray).size=1:=rfl;unfold Kv at HI⊢;rw[hr];have ht:(N:Int).tmod 128=(r:Int):=by rw[bF (by omega)];omega
   have hw:IntKind.i64.wrap (128+(r:Int))=128+(r:Int):=by rw[bL];omega
   have Gc:IntKind.u8.wrap (128+(r:Int))=128+(r:Int):=by rw[bC];omega
   have hd:IntKind.i64.wrap ((N:Int)/128)=(M:Int):=by rw[bL];omega
   have eH:decide ((N:Int)<128)=false:=xdf (by omega);clear hr hb hM hR ih h;generalize (⟨(iJ M).toArray⟩:ByteArray)=nb at*;generalize (⟨#[b8 (128+r)]⟩:ByteArray)=n1 at*;go_enter func97,ntmps97;go_wp2;go_region_with (first|(go_at_call 97;(refine(HI.o _).mono ?_;rintro e w2 ⟨rfl,gq⟩;obtain⟨kX,rA⟩:=jgo gq;have iC:=Hd gq;clear gq)))
   all_goals
    go_wp2;go_ret;refine⟨rfl,?_⟩;first
     |exact((jg _ w).alloc (ji _) _).drew.trans (iC.mono (by simp))
     |exact((jg w.heap.size w).drew.trans (iC.mono (ji _))).alloc (by have:=iC.size;simpa using this) _
theorem q9k (s:ByteArray) (hs:s.size<=140737488355328):az prog 98 #[.string s] w λe w'=>e=.returned (.string ⟨(nA s.data.toList).toArray⟩)/\ai w.heap.size w w':=by
 have hl:(⟨(nA s.data.toList).toArray⟩:ByteArray)=(⟨(iJ s.size).toArray⟩:ByteArray)++s:=by
  apply ByteArray.ext;rw[bw];unfold nA;apply cM;simp
 have hn:(⟨(iJ s.size).toArray⟩:ByteArray).size<=9:=by
  have:=AV 8 s.size (by omega);show(iJ s.size).toArray.size<=9;simpa using this
 rw[hl];have HC:=Ng s.size w (by omega);unfold Kv at HC;have HC:=Hd HC;clear hl;generalize (⟨(iJ s.size).toArray⟩:ByteArray)=nb at*;go_enter func98,ntmps98;go_wp2_with (go_at_call 97;refine HC.mono ?_;rintro e w1 ⟨rfl,iq⟩;have lH:=Hd iq;clear iq)
 go_ret;exact⟨rfl,lH.o⟩
end
namespace Ph
open Go.Conc Go.ConcN Go.RowKit Go.Maps Go.Conc.Lib Go Sim
section
variable {P:Program} {ops:Array Oper} {n:Nat} {x0:Nat->ac} {w0:aa} {KN:Nat->ac->aa->Prop}
def E8 (ops:Array Oper) (n:Nat):Bool:=
 (aJ ops.size).all λj=>match ops[j]? with
  |some o=>o.guard.isNone&&(match o.dst with|some d=>decide (d<n)|none=>false)&&(o.after.all λe=>decide (e.on<j))&&((aJ ops.size).all λi=>i==j||(match ops[i]? with|some p=>!(p.dst==o.dst)|none=>true))
  |none=>false
structure RV (ops:Array Oper) (n:Nat) (x0:Nat->ac) (w0:aa) (KN:Nat->ac->aa->Prop) (listed:Array Bool) (a:Act) (w:aa):Prop where
 size:listed.size=ops.size
 lay:∃x,a=⟨lay n x,[]⟩/\(∀s,(∀(j:Nat) o,ops[j]?=some o->o.dst≠some s)->x s=x0 s)/\∀(j:Nat) o d,listed.getD j false=true->ops[j]?=some o->o.dst=some d->KN j (x d) w
 below:ai w0.heap.size w0 w
theorem UH (h:E8 ops n=true) (ho:ops[j]?=some o):o.guard=none/\(∃d,o.dst=some d/\d<n)/\(∀e∈o.after,e.on<j)/\∀i p,ops[i]?=some p->i≠j->p.dst≠o.dst:=by
 unfold E8 at h;rw[aC]at h;have hj:j<ops.size:=(zi ho).1;have:=h j (aV.2 hj);rw[ho]at this;simp only[ax,bI]at this;obtain⟨⟨⟨h1,h2⟩,h3⟩,h4⟩:=this;refine⟨h1,?_,λe he=>?_,λi p hp fA hd=>?_⟩
 ·cases hd:o.dst with
  |none=>rw[hd]at h2;cases h2
  |some d=>rw[hd]at h2;exact⟨d,rfl,of_decide_eq_true h2⟩
 ·exact of_decide_eq_true ((bk.1 h3) e he)
 ·rw[aC]at h4;have hi:=(zi hp).1;have:=h4 i (aV.2 hi);rw[hp]at this;simp[fA,hd]at this
def left (m:Nat) (listed:Array Bool):Nat:=(aJ m).countP λj=>!listed.getD j true
theorem NZ {listed:Array Bool} (hi:i<m) (hs:listed.size=m) (h:listed.getD i true=false):left m (listed.setIfInBounds i true)+1=left m listed:=by
 refine OU _ _ i (λj hj=>?_) (by simpa using h) ?_ _ List.nodup_range (aV.2 hi)
 ·rw[aN true (Ne.symm hj)]
 ·have:i<listed.size:=by omega
  simp[this]
theorem Vt {listed:Array Bool} (hj:j<m) (h:listed.getD j true=false):0<left m listed:=
 List.countP_pos_iff.2 ⟨j,aV.2 hj,by simp[h]⟩
theorem Og (h:E8 ops n=true) {listed:Array Bool} (hs:listed.size=ops.size) (hr:au .any ops listed=[]):∀j,j<ops.size->listed.getD j false=true:=by
 intro j;induction j using Nat.strongRecOn with
 |_ j ih=>
  intro hj;cases hv:listed.getD j false with
  |true=>rfl
  |false=>
   exfalso;obtain⟨o,ho⟩:∃o,ops[j]?=some o:=⟨_,bJ hj⟩
   have eH:j<listed.size:=by omega
   have:j∈au .any ops listed:=bO.2 ⟨by simp[eH]at hv⊢;exact hv,o,ho,λe he _=>by
    have:=(UH h ho).2.2.1 e he
    exact ih e.on this (by omega)⟩
   rw[hr]at this;cases this
theorem Xn {id:Nat} (hm:P.follows .mixedOrders=true) (hn:E8 ops n=true) (ha:∃x,a=⟨lay n x,[]⟩/\∀s,x s=x0 s) (hw:w0=w.drew)
  (hk:∀j v w w',ai w.heap.size w w'->KN j v w->KN j v w')
  (step:∀(j:Nat) o d x w,ops[j]?=some o->o.dst=some d->(∀s,(∀(j:Nat) o,ops[j]?=some o->o.dst≠some s)->x s=x0 s)->(∀(i:Nat) p e,ops[i]?=some p->p.dst=some e->(∃ed∈o.after,ed.on=i/\bm .any ed=true)->KN i (x e) w)->ai w0.heap.size w0 w->
   o.wp P ⟨lay n x,[]⟩ w (λa' w'=>∃v,a'=⟨lay n (upd x d v),[]⟩/\KN j v w'/\ai w.heap.size w w') Q)
  (done:∀x w,(∀s,(∀(j:Nat) o,ops[j]?=some o->o.dst≠some s)->x s=x0 s)->(∀(j:Nat) o d,ops[j]?=some o->o.dst=some d->KN j (x d) w)->ai w0.heap.size w0 w->Q .normal ⟨lay n x,[]⟩ w):
  (ak id ops true).wp P Q a w:=by
 refine wp_region_any hm ?_;have main:∀fuel listed a w,left ops.size listed<=fuel->RV ops n x0 w0 KN listed a w->wpAny P .any ops Q fuel listed a w:=by
  intro fuel;have fin:∀listed a w,RV ops n x0 w0 KN listed a w->au .any ops listed=[]->Q .normal a w:=by
   rintro listed a w ⟨h1,⟨x,rfl,h2,h3⟩,h4⟩ hr;exact done x w h2 (λj o d ho hd=>h3 j o d (Og hn h1 hr j (zi ho).1) ho hd) h4
  induction fuel with
  |zero=>
   intro listed a w hl hv;have hr:au .any ops listed=[]:=by
    cases hq:au .any ops listed with
    |nil=>rfl
    |cons j r=>
     exfalso;have hj:j∈au .any ops listed:=by rw[hq];exact .head _
     obtain⟨h1,o,ho,_⟩:=bO.1 hj;have:=Vt (zi ho).1 h1;omega
   exact⟨hr,fin listed a w hv hr⟩
  |succ fuel ih=>
   intro listed a w hl hv;refine⟨fin listed a w hv,λj hj=>?_⟩;obtain⟨h1,o,ho,h3⟩:=bO.1 hj;obtain⟨hg,⟨d,hd,qM⟩,jo,yG⟩:=UH hn ho;obtain⟨fC,⟨x,rfl,hx,lZ⟩,hb⟩:=hv;unfold wpOp;rw[ho];simp only[cU,hg,if_true];refine .inl (Oper.wp_mono ?_ (step j o d x w ho hd hx (λi p e hp he ⟨ed,QE,h5,h6⟩=>lZ i p e (by rw[<-h5];exact h3 ed QE h6) hp he) hb));rintro a' w' ⟨v,rfl,hv,gK⟩;have I5:j<ops.size:=(zi ho).1;refine ih _ _ _ (by have:=NZ I5 fC h1;omega) ⟨by simpa using fC,⟨_,rfl,λs hs=>?_,λi p e hi hp he=>?_⟩,hb.trans (gK.mono hb.size)⟩
   ·unfold upd;rw[if_neg λe=>hs j o ho (by rw[hd,e])];exact hx s hs
   ·by_cases e1:i=j
    ·subst e1;rw[ho]at hp;cases hp;rw[hd]at he;cases he;unfold upd;rw[if_pos rfl];exact hv
    ·have fA:e≠d:=λe2=>yG i p hp e1 (by rw[he,hd,e2]);unfold upd;rw[if_neg fA];rw[aN false (Ne.symm e1)]at hi;exact hk i _ w w' gK (lZ i p e hi hp he)
 obtain⟨x,rfl,hx⟩:=ha;subst hw;refine main _ _ _ _ (xlt (List.countP_le_length) (by simp)) ⟨by simp,⟨x,rfl,λs _=>hx s,λj o d hj ho hd=>?_⟩,jg _ _⟩;have:j<ops.size:=(zi ho).1;simp[this]at hj
theorem qo {v:ac} {next:Act->aa->Prop} (h:(ae a.eval o).run P w=.ok (.value v) w') (k:next (a.put o.dst v) w'):o.wp P a w next Q:=by
 unfold Oper.wp;rw[h];exact k
end
def waits (ops:Array Oper) (m:Nat):List Bool->Nat->List Bool
 |S,0=>S
 |S,j+1=>waits ops m (if S.getD j false then(match ops[j]? with
  |some o=>S.mapIdx λi b=>b||o.after.toList.any λe=>e.on==i&&bm .any e
  |none=>S)else S) j
def Dr (ops:Array Oper) (n:Nat):Bool:=
 (decide (0<ops.size))&&((aJ ops.size).all λj=>match ops[j]? with
  |some o=>o.guard.isNone&&(match o.dst with|some d=>decide (d<n)&&decide (j+1<ops.size)|none=>decide (j+1=ops.size))&&(o.after.all λe=>decide (e.on<j))&&((aJ ops.size).all λi=>i==j||(match ops[i]? with|some p=>!(p.dst==o.dst)|none=>true))
  |none=>false)&&((waits ops (ops.size-1) ((aJ ops.size).map λi=>i+1==ops.size) ops.size).all id)
section
variable {P:Program} {ops:Array Oper} {n:Nat} {x0:Nat->ac} {KN:Nat->ac->aa->Prop} {turn:Nat} {J:Bool->aa->Prop}
def PG (ops:Array Oper) (listed:Array Bool):Prop:= ∀(j:Nat) o,ops[j]?=some o->listed.getD j false=true->∀e∈o.after,bm .any e=true->listed.getD e.on false=true
theorem N7 (ops:Array Oper) (m:Nat) {listed:Array Bool} (hs:PG ops listed):∀(k:Nat) (S:List Bool),(∀i,S.getD i false=true->listed.getD i false=true)->∀i,(waits ops m S k).getD i false=true->listed.getD i false=true
 |0,S,h=>h
 |k+1,S,h=>by
  unfold waits;refine N7 ops m hs k _ ?_;intro i hi;split at hi
  ·rename_i hk;have xR:=h k hk;split at hi
   ·rename_i o ho;rw[aj,List.getElem?_mapIdx]at hi;cases hb:S[i]? with
    |none=>rw[hb]at hi;cases hi
    |some b=>
     rw[hb]at hi;simp only[bZ,bP,Bool.or_eq_true,cE]at hi;rcases hi with hi|⟨e,he,h2⟩
     ·exact h i (by rw[aj,hb];exact hi)
     ·simp only[ax,beq_iff_eq]at h2;rw[<-h2.1];exact hs k o ho xR e (by simpa using he) h2.2
   ·exact h i hi
  ·exact h i hi
theorem Ve (h:Dr ops n=true) (ho:ops[j]?=some o):o.guard=none/\(∀e∈o.after,e.on<j)/\(∀i p,ops[i]?=some p->i≠j->p.dst≠o.dst)/\((∃d,o.dst=some d/\d<n/\j+1<ops.size)\/(o.dst=none/\j+1=ops.size)):=by
 unfold Dr at h;simp only[ax]at h;have h:=h.1.2;rw[aC]at h;have hj:j<ops.size:=(zi ho).1;have:=h j (aV.2 hj);rw[ho]at this;simp only[ax,bI]at this;obtain⟨⟨⟨h1,h2⟩,h3⟩,h4⟩:=this;refine⟨h1,λe he=>of_decide_eq_true ((bk.1 h3) e he),λi p hp fA hd=>?_,?_⟩
 ·rw[aC]at h4;have hi:=(zi hp).1;have:=h4 i (aV.2 hi);rw[hp]at this;simp[fA,hd]at this
 ·cases hd:o.dst with
  |none=>rw[hd]at h2;exact .inr ⟨rfl,of_decide_eq_true h2⟩
  |some d=>rw[hd]at h2;simp only[ax]at h2;exact .inl ⟨d,rfl,of_decide_eq_true h2.1,of_decide_eq_true h2.2⟩
structure RS (ops:Array Oper) (n:Nat) (x0:Nat->ac) (turn:Nat) (J:Bool->aa->Prop) (KN:Nat->ac->aa->Prop) (Q:Exit->Act->aa->Prop) (listed:Array Bool) (a:Act) (w:aa):Prop where
 size:listed.size=ops.size
 shut:PG ops listed
 go:(listed.getD (ops.size-1) true=false/\J (listed.getD turn false) w/\∃x,a=⟨lay n x,[]⟩/\(∀s,(∀(j:Nat) o,ops[j]?=some o->o.dst≠some s)->x s=x0 s)/\∀(j:Nat) o d,listed.getD j false=true->ops[j]?=some o->o.dst=some d->KN j (x d) w)\/(listed.getD (ops.size-1) false=true/\Q .normal a w)
theorem Xl {id:Nat} (hm:P.follows .mixedOrders=true) (hn:Dr ops n=true) (ha:∃x,a=⟨lay n x,[]⟩/\∀s,x s=x0 s) (hw:J false w.drew)
  (step:∀(j:Nat) o d x w (b:Bool),(j=turn->b=false)->ops[j]?=some o->o.dst=some d->(∀s,(∀(j:Nat) o,ops[j]?=some o->o.dst≠some s)->x s=x0 s)->(∀(i:Nat) p e,ops[i]?=some p->p.dst=some e->(∃ed∈o.after,ed.on=i/\bm .any ed=true)->KN i (x e) w)->J b w->
   o.wp P ⟨lay n x,[]⟩ w (λa' w'=>∃v,a'=⟨lay n (upd x d v),[]⟩/\KN j v w'/\J (b||j==turn) w'/\∀i u,i≠j->KN i u w->KN i u w') Q)
  (last:∀(m:Nat) o x w,m+1=ops.size->ops[m]?=some o->(∀s,(∀(j:Nat) o,ops[j]?=some o->o.dst≠some s)->x s=x0 s)->(∀(j:Nat) o d,ops[j]?=some o->o.dst=some d->KN j (x d) w)->J (decide (turn+1<ops.size)) w->o.wp P ⟨lay n x,[]⟩ w (λa' w'=>Q .normal a' w') Q):
  (ak id ops true).wp P Q a w:=by
 refine wp_region_any hm ?_;have jN:0<ops.size:=by
  unfold Dr at hn;simp only[ax,decide_eq_true_eq]at hn;exact hn.1.1
 have LZ:((waits ops (ops.size-1) ((aJ ops.size).map λi=>i+1==ops.size) ops.size).all (λb=>b))=true:=by
  unfold Dr at hn;simp only[ax]at hn;exact hn.2
 have L6:∀(k:Nat) (S:List Bool),(waits ops (ops.size-1) S k).length=S.length:=by
  intro k;induction k with
  |zero=>intro S;rfl
  |succ k ih=>
   intro S;unfold waits;rw[ih];split
   ·split
    ·simp
    ·rfl
   ·rfl
 -- if none is ready,all are done
 have Og:∀{listed:Array Bool},listed.size=ops.size->au .any ops listed=[]->∀j,j<ops.size->listed.getD j false=true:=by
  intro listed hs Gd j;induction j using Nat.strongRecOn with
  |_ j ih=>
   intro hj;cases hv:listed.getD j false with
   |true=>rfl
   |false=>
    exfalso;obtain⟨o,ho⟩:∃o,ops[j]?=some o:=⟨_,bJ hj⟩
    have eH:j<listed.size:=by omega
    have:j∈au .any ops listed:=bO.2 ⟨by simp[eH]at hv⊢;exact hv,o,ho,λe he _=>by
     have:=(Ve hn ho).2.1 e he
     exact ih e.on this (by omega)⟩
    rw[Gd]at this;cases this
 have main:∀fuel listed a w,left ops.size listed<=fuel->RS ops n x0 turn J KN Q listed a w->wpAny P .any ops Q fuel listed a w:=by
  intro fuel;have fin:∀listed a w,RS ops n x0 turn J KN Q listed a w->au .any ops listed=[]->Q .normal a w:=by
   rintro listed a w ⟨h1,h2,h3⟩ Gd;rcases h3 with⟨h3,_⟩|⟨_,h3⟩
   ·have:=Og h1 Gd (ops.size-1) (by omega);have eH:ops.size-1<listed.size:=by omega
    simp[eH]at this h3;rw[this]at h3;cases h3
   ·exact h3
  induction fuel with
  |zero=>
   intro listed a w hl hv;have Gd:au .any ops listed=[]:=by
    cases hq:au .any ops listed with
    |nil=>rfl
    |cons j r=>
     exfalso;have hj:j∈au .any ops listed:=by rw[hq];exact .head _
     obtain⟨h1,o,ho,_⟩:=bO.1 hj;have:=Vt (zi ho).1 h1;omega
   exact⟨Gd,fin listed a w hv Gd⟩
  |succ fuel ih=>
   intro listed a w hl hv;refine⟨fin listed a w hv,λj hj=>?_⟩;obtain⟨h1,o,ho,h3⟩:=bO.1 hj;obtain⟨hg,jo,yG,JV⟩:=Ve hn ho;obtain⟨fC,kG,hgo⟩:=hv;have I5:j<ops.size:=(zi ho).1
   -- the list is shut behind it,too
   have EK:PG ops (listed.setIfInBounds j true):=by
    intro i p hp hi e he Zv;by_cases e1:i=j
    ·subst e1;rw[ho]at hp;cases hp;have eH:=jo e he;rw[aN false (by omega)];exact h3 e he Zv
    ·rw[aN false (Ne.symm e1)]at hi;have h4:=kG i p hp hi e he Zv;by_cases e2:e.on=j
     ·rw[e2];have:j<listed.size:=by omega
      simp[this]
     ·rw[aN false (Ne.symm e2)];exact h4
   -- were the last one done,all would be
   have JN:listed.getD (ops.size-1) false≠true:=λhT=>by
    have gm:=N7 ops (ops.size-1) kG ops.size ((aJ ops.size).map λi=>i+1==ops.size) (λi hi=>by
     rw[aj,cB]at hi;by_cases CB:i<ops.size
     ·rw[List.getElem?_range CB]at hi;simp only[bZ,bP,beq_iff_eq]at hi;rw[show i=ops.size-1 by omega];exact hT
     ·rw[ce (by simp;omega)]at hi;cases hi) j (by
     rw[aC]at LZ;have hlen:j<(waits ops (ops.size-1) ((aJ ops.size).map λi=>i+1==ops.size) ops.size).length:=by rw[L6];simp;exact I5
     rw[aj,bK hlen]
     exact LZ _ (bz hlen))
    have eH:j<listed.size:=by omega
    simp[eH]at gm h1;rw[gm]at h1;cases h1
   obtain⟨Gf,hR,x,rfl,hx,lZ⟩:_:=hgo.resolve_right λh=>JN h.1;unfold wpOp;rw[ho];simp only[cU,hg,if_true];rcases JV with⟨d,hd,qM,xU⟩|⟨hd,xU⟩
   ·refine .inl (Oper.wp_mono ?_ (step j o d x w (listed.getD turn false) (λe=>?_) ho hd hx (λi p e hp he ⟨ed,QE,h5,h6⟩=>lZ i p e (by rw[<-h5];exact h3 ed QE h6) hp he) hR));rotate_left
    ·rw[<-e];have eH:j<listed.size:=by omega
     simp[eH]at h1⊢;exact h1
    rintro a' w' ⟨v,rfl,hv,gK,hk⟩;have gK:J ((listed.setIfInBounds j true).getD turn false) w':=by
     by_cases e:j=turn
     ·subst e;have eH:j<listed.size:=by omega
      simp[eH]at gK⊢;exact gK
     ·rw[aN false e];have e2:(j==turn)=false:=by simpa using e
      rw[e2,Bool.or_false]at gK;exact gK
    refine ih _ _ _ (by have:=NZ I5 fC h1;omega) ⟨by simpa using fC,EK,.inl ⟨by rw[aN true (by omega)];exact Gf,gK,_,rfl,λs hs=>?_,λi p e hi hp he=>?_⟩⟩
    ·unfold upd;rw[if_neg λe=>hs j o ho (by rw[hd,e])];exact hx s hs
    ·by_cases e1:i=j
     ·subst e1;rw[ho]at hp;cases hp;rw[hd]at he;cases he;unfold upd;rw[if_pos rfl];exact hv
     ·have fA:e≠d:=λe2=>yG i p hp e1 (by rw[he,hd,e2]);unfold upd;rw[if_neg fA];rw[aN false (Ne.symm e1)]at hi;exact hk i _ e1 (lZ i p e hi hp he)
   ·have gm:∀i,i<ops.size-1->listed.getD i false=true:=by
     intro i hi;have gm:=N7 ops (ops.size-1) EK ops.size ((aJ ops.size).map λi=>i+1==ops.size) (λi hi=>by
      rw[aj,cB]at hi;by_cases CB:i<ops.size
      ·rw[List.getElem?_range CB]at hi;simp only[bZ,bP,beq_iff_eq]at hi;rw[show i=j by omega];have:j<listed.size:=by omega
       simp[this]
      ·rw[ce (by simp;omega)]at hi;cases hi) i (by
      rw[aC]at LZ;have hlen:i<(waits ops (ops.size-1) ((aJ ops.size).map λi=>i+1==ops.size) ops.size).length:=by rw[L6];simp;omega
      rw[aj,bK hlen]
      exact LZ _ (bz hlen))
     rw[aN false (by omega)]at gm;exact gm
    refine .inl (Oper.wp_mono ?_ (last j o x w xU ho hx (λi p d hp pQ=>lZ i p d (gm i ?_) hp pQ) (by
     have:listed.getD turn false=decide (turn+1<ops.size):=by
      by_cases e:turn+1<ops.size
      ·rw[gm turn (by omega)];simp[e]
      ·by_cases e2:turn=ops.size-1
       ·rw[e2];have eH:ops.size-1<listed.size:=by omega
        simp[eH]at Gf⊢;rw[Gf];simp;omega
       ·simp[e,show¬turn<listed.size by omega]
     rw[<-this];exact hR)))
    ·intro a' w' hq;refine ih _ _ _ (by have:=NZ I5 fC h1;omega) ⟨by simpa using fC,EK,.inr ⟨?_,hq⟩⟩;rw[show ops.size-1=j by omega];have:j<listed.size:=by omega
     simp[this]
    ·have hi:=(zi hp).1;rcases cZ i (ops.size-1)with h|h
     ·exact h
     ·exfalso;have:i=j:=by omega
      subst this;rw[ho]at hp;cases hp;rw[hd]at pQ;cases pQ
 obtain⟨x,rfl,hx⟩:=ha;have h0f:J ((cH ops.size false).getD turn false) w.drew:=by
  have:(cH ops.size false).getD turn false=false:=by
   by_cases h:turn<ops.size<;>simp[h]
  rw[this];exact hw
 refine main _ _ _ _ (xlt (List.countP_le_length) (by simp)) ⟨by simp,λj o ho hj=>?_,.inl ⟨?_,h0f,x,rfl,λs _=>hx s,λj o d hj ho hd=>?_⟩⟩
 ·have:j<ops.size:=(zi ho).1;simp[this]at hj
 ·have:ops.size-1<ops.size:=by omega
  simp[this]
 ·have:j<ops.size:=(zi ho).1;simp[this]at hj
end
theorem xD {ops:Array Oper} {s:Nat} (h:(ops.toList.all λo=>!(o.dst==some s))=true):∀(j:Nat) o,ops[j]?=some o->o.dst≠some s:=λj o ho e=>by
 rw[aC]at h;have:=h o (by rw[<-aS]at ho;exact aG ho);rw[e]at this;simp at this
theorem qj (h:(o.after.toList.any λe=>e.on==i&&bm .any e)=true):∃ed∈o.after,ed.on=i/\bm .any ed=true:=by
 rw[cE]at h;obtain⟨e,h1,h2⟩:=h;simp only[ax,beq_iff_eq]at h2;exact⟨e,by simpa using h1,h2.1,h2.2⟩
theorem YZ (W:aa) (g:Nat) (x y:Int) (a b:UInt8) (hx:x=a.toNat) (hy:y=b.toNat) (h0:W.cell? ⟨g,0,none⟩=some (.int .u8 x)) (h1:W.cell? ⟨g,1,none⟩=some (.int .u8 y)):(convert 139 9 (.slice (some ⟨g,0,none⟩) 2 2)).run prog W=.ok (.string ⟨#[a,b]⟩) W:=
 aQ (P:=prog) _ 139 9 5 ⟨g,0,none⟩ 2 [a,b] underlying139 underlying5 underlying9 (λj hj=>by
  rw[aO,bE];have hj:j<2:=hj;match j,hj with
  |0,_=>rw[h0,hx];rfl
  |1,_=>rw[h1,hy];rfl)
theorem jgs (W:aa) (g:Nat) (x0 x1 x2 x3:Int) (a b c d:UInt8) (e0:x0=a.toNat) (e1:x1=b.toNat) (e2:x2=c.toNat) (e3:x3=d.toNat) (h0:W.cell? ⟨g,0,none⟩=some (.int .u8 x0)) (h1:W.cell? ⟨g,1,none⟩=some (.int .u8 x1)) (h2:W.cell? ⟨g,2,none⟩=some (.int .u8 x2)) (h3:W.cell? ⟨g,3,none⟩=some (.int .u8 x3)):
  (convert 139 9 (.slice (some ⟨g,0,none⟩) 4 4)).run prog W=.ok (.string ⟨#[a,b,c,d]⟩) W:=
 aQ (P:=prog) _ 139 9 5 ⟨g,0,none⟩ 4 [a,b,c,d] underlying139 underlying5 underlying9 (λj hj=>by
  rw[aO,bE];have hj:j<4:=hj;match j,hj with
  |0,_=>rw[h0,e0];rfl
  |1,_=>rw[h1,e1];rfl
  |2,_=>rw[h2,e2];rfl
  |3,_=>rw[h3,e3];rfl)
theorem DX {f:FuncId} {args:Array ac} {R:cg->aa->Prop} {next:Act->aa->Prop} (h:(ae a.eval o).run prog w=.ok (.enter f args) w) (hc:az prog f args w R) (k:∀e w',R e w'->∃v,e=.returned v/\next (a.put o.dst v) w'):o.wp prog a w next Q:=by
 unfold Oper.wp;rw[h];exact hc.mono λe w' hr=>by
  obtain⟨v,rfl,h⟩:=k e w' hr;exact h
theorem FC {q:bp} {s t:ByteArray} (h:o.op=.binOp .add 9 p q 9) (hp:e p=.string s) (hq:e q=.string t) (hl:s.size+t.size<=9223372036854775807):(ae e o).run prog w=.ok (.value (.string (s++t))) w:=by
 have hd:(9223372036854775807<s.size+t.size)=False:=by simp;omega
 unfold ae;simp[go_sem,h,hp,hq,hd]
theorem G8 (f:Nat) (hf:f<5) (h:o.op=.fieldAddr 133 p f) (hp:e p=.pointer (some ⟨g,0,none⟩)):(ae e o).run prog w=.ok (.value (.pointer (some ⟨g,f,none⟩))) w:=by
 have hu:=underlying133;have vT:f=0\/f=1\/f=2\/f=3\/f=4:=by omega
 unfold ae;rcases vT with rfl|rfl|rfl|rfl|rfl<;>simp[go_sem,h,hp,hu]
theorem G9 (f:Nat) (hf:f<5) (h:o.op=.fieldAddr 182 p f) (hp:e p=.pointer (some ⟨g,0,none⟩)):(ae e o).run prog w=.ok (.value (.pointer (some ⟨g,f,none⟩))) w:=by
 have hu:=underlying182;have vT:f=0\/f=1\/f=2\/f=3\/f=4:=by omega
 unfold ae;rcases vT with rfl|rfl|rfl|rfl|rfl<;>simp[go_sem,h,hp,hu]
theorem zo {a:Addr} {v:ac} (h:o.op=.load ty p) (hp:e p=.pointer (some a)) (hA:(isAgg ty).run prog w=.ok false w) (hc:w.cell? a=some v):(ae e o).run prog w=.ok (.value v) w:=by
 unfold ae;simp[go_sem,h,hp,hA,hc]
theorem Ot {m:Int} (h:o.op=.convert 3 5 p) (hp:e p=.int .i64 m):(ae e o).run prog w=.ok (.value (.int .u8 (IntKind.u8.wrap m))) w:=by
 have hu:=underlying3;have zK:=underlying5;unfold ae;simp[go_sem,h,hp,hu,zK]
theorem UW {a b:bA} {v v':ac} (h:o.op=.convert a b p) (hp:e p=v) (hc:(convert a b v).run prog w=.ok v' w):(ae e o).run prog w=.ok (.value v') w:=by
 unfold ae;simp[go_sem,h,hp,hc]
theorem Ww {q:bp} {x y:Int} (h:o.op=.buildSlice 139 2 #[(0,p),(1,q)]) (hp:e p=.int .u8 x) (hq:e q=.int .u8 y):(ae e o).run prog w=.ok (.value (.slice (some ⟨w.heap.size,0,none⟩) 2 2)) (w.alloc (.cells #[.int .u8 x,.int .u8 y] 5)):=by
 have hu:=underlying139;unfold ae;simp[go_sem,h,hp,hq,hu]
theorem F6 {f:FuncId} {v:ac} {fn:Func} (h:o.op=.call {callee:=.value (.func f),args:=#[p],argTypes:=#[ty]}) (hp:a.eval p=v) (hf:prog.funcs[f]?=some fn) (yP:(fn.name== "runtime.NumGoroutine")=false) (hb:fn.body.isNone=false):(ae a.eval o).run prog w=.ok (.enter f #[v]) w:=by
 rw[run_call_body h hf yP hb];simp[hp]
theorem Ud {v:ac} (h:o.op=.assign p) (hp:e p=v):(ae e o).run prog w=.ok (.value v) w:=by
 unfold ae;simp[go_sem,h,hp]
theorem YL (w:aa) (x y:ac) (t:bA):(w.alloc (.cells #[x,y] t)).cell? ⟨w.heap.size,0,none⟩=some x:=by
 rw[show(⟨w.heap.size,0,none⟩:Addr)=Addr.mk w.heap.size 0 none from rfl];simp[World.cell?_alloc_new]
theorem YK (w:aa) (x y:ac) (t:bA):(w.alloc (.cells #[x,y] t)).cell? ⟨w.heap.size,1,none⟩=some y:=by
 simp[World.cell?_alloc_new]
theorem qg {d:Nat} {x:Nat->ac} {v:ac} (hd:o.dst=some d):(bV (lay n x) []).put o.dst v=⟨lay n (upd x d v),[]⟩:=by
 rw[hd];show bV ((lay n x).setIfInBounds d v) []=_;rw[xH]
noncomputable def pb1:Array Oper:=match Tryz.f75.body with|some (.seq _ (.seq a _))=>rg a|_=>#[]
noncomputable def pbo (k:Nat):Oper:=pb1.getD k ⟨none,.alloc 0,0, "",#[],none⟩
theorem q84:E8 pb1 41=true:=by kernel_rfl
section
variable {bx id n kd sh:Nat} {ld s0 s1 s2 s3:ByteArray}
def Kpb (bx kd sh id n:Nat) (ld s0 s1 s2 s3:ByteArray):Nat->ac->aa->Prop
 |0,v,_=>v=.pointer (some ⟨bx,0,none⟩)
 |1,v,_=>v=.int .u8 kd
 |2,v,_=>v=.pointer (some ⟨bx,1,none⟩)
 |3,v,_=>v=.int .i64 sh
 |4,v,_=>v=.int .u8 sh
 |5,v,w=>∃g,v=.slice (some ⟨g,0,none⟩) 2 2/\w.cell? ⟨g,0,none⟩=some (.int .u8 kd)/\w.cell? ⟨g,1,none⟩=some (.int .u8 sh)
 |6,v,_=>v=.string s0
 |7,v,_=>v=.pointer (some ⟨bx,2,none⟩)
 |8,v,_=>v=.int .i64 id
 |9,v,_=>v=.string s1
 |10,v,_=>v=.string (s0++s1)
 |11,v,_=>v=.pointer (some ⟨bx,3,none⟩)
 |12,v,_=>v=.int .i64 n
 |13,v,_=>v=.string s2
 |14,v,_=>v=.string (s0++s1++s2)
 |15,v,_=>v=.pointer (some ⟨bx,4,none⟩)
 |16,v,_=>v=.string ld
 |17,v,_=>v=.string s3
 |18,v,_=>v=.string (s0++s1++s2++s3)
 |19,v,_=>v=.string (s0++s1++s2++s3)
 |_,_,_=>True
theorem qyv (j:Nat) (v:ac) (w w':aa) (hb:ai w.heap.size w w') (h:Kpb bx kd sh id n ld s0 s1 s2 s3 j v w):Kpb bx kd sh id n ld s0 s1 s2 s3 j v w':=by
 match j,h with
 |5,h=>
  obtain⟨g,h1,h2,h3⟩:=h;have lt:g<w.heap.size:=xbl w _ h2;exact⟨g,h1,(hb.cell (p:=⟨g,0,none⟩) lt).trans h2,(hb.cell (p:=⟨g,1,none⟩) lt).trans h3⟩
 |0,h|1,h|2,h|3,h|4,h|6,h|7,h|8,h|9,h|10,h|11,h|12,h|13,h|14,h|15,h|16,h|17,h|18,h|19,h=>exact h
 |k+20,_=>trivial
theorem jjk (fC:a.tmps.size=41) (Es:a.defers=[]) (h1:a.tmps.getD 1 aR=.pointer (some ⟨bx,0,none⟩)) (c0:w.cell? ⟨bx,0,none⟩=some (.int .u8 kd)) (c1:w.cell? ⟨bx,1,none⟩=some (.int .i64 sh)) (c2:w.cell? ⟨bx,2,none⟩=some (.int .i64 id)) (c3:w.cell? ⟨bx,3,none⟩=some (.int .i64 n)) (c4:w.cell? ⟨bx,4,none⟩=some (.string ld))
  (tH:kd<256) (kG:sh<256) (e0:s0=⟨#[b8 kd,b8 sh]⟩) (l1:s1.size<=9) (l2:s2.size<=9) (l3:s3.size<=1048585)
  (C1:∀W:aa,az prog 113 #[.int .i64 id] W λe w'=>e=.returned (.string s1)/\ai W.heap.size W w') (C2:∀W:aa,az prog 113 #[.int .i64 n] W λe w'=>e=.returned (.string s2)/\ai W.heap.size W w') (C3:∀W:aa,az prog 114 #[.string ld] W λe w'=>e=.returned (.string s3)/\ai W.heap.size W w')
  (hQ:∀y w',(∀s,(∀(j:Nat) o,pb1[j]?=some o->o.dst≠some s)->y s=a.tmps.getD s aR)->y 3=.string (s0++s1++s2++s3)->ai w.heap.size w w'->Q .normal ⟨lay 41 y,[]⟩ w'):(ak 1 pb1 true).wp prog Q a w:=by
 have l0:s0.size=2:=by rw[e0];rfl
 have lt:bx<w.heap.size:=xbl w _ c0;have hst:=underlying133;refine Xn (n:=41) (x0:=λs=>a.tmps.getD s aR) (w0:=w.drew) (KN:=Kpb bx kd sh id n ld s0 s1 s2 s3) (by kernel_rfl) q84 ⟨_,?_,λ_=>rfl⟩ rfl qyv ?_ ?_
 ·obtain⟨t,df⟩:=a;obtain rfl:df=[]:=Es;rw[DC fC]
 ·intro j o d x w1 ho hd hx jo hb;have xX:∀f,w1.cell? ⟨bx,f,none⟩=w.cell? ⟨bx,f,none⟩:=λf=>hb.cell (p:=⟨bx,f,none⟩) lt;have x1:x 1=.pointer (some ⟨bx,0,none⟩):=(hx 1 (xD (by kernel_rfl))).trans h1;match j,ho with
  |0,ho=>
   cases ho;cases hd;exact qo (G8 0 (by decide) rfl (qy x1)) ⟨_,qg rfl,rfl,jg _ _⟩
  |1,ho=>
   cases ho;cases hd;have k0:x 5=.pointer (some ⟨bx,0,none⟩):=jo 0 _ 5 rfl rfl (qj rfl);exact qo (zo (ty:=131) rfl (qy k0) (by simp[isAgg]) ((xX 0).trans c0)) ⟨_,qg rfl,rfl,jg _ _⟩
  |2,ho=>
   cases ho;cases hd;exact qo (G8 1 (by decide) rfl (qy x1)) ⟨_,qg rfl,rfl,jg _ _⟩
  |3,ho=>
   cases ho;cases hd;have k2:x 7=.pointer (some ⟨bx,1,none⟩):=jo 2 _ 7 rfl rfl (qj rfl);exact qo (zo (ty:=3) rfl (qy k2) (by simp[isAgg]) ((xX 1).trans c1)) ⟨_,qg rfl,rfl,jg _ _⟩
  |4,ho=>
   obtain rfl:=xop (a:=pbo 4) rfl ho;obtain rfl:=xop (a:=9) rfl hd;have k3:x 8=.int .i64 sh:=jo 3 _ 8 rfl rfl (qj rfl);have Gc:IntKind.u8.wrap (sh:Int)=(sh:Int):=by rw[bC];omega
   have hr:=Ot (o:=pbo 4) (w:=w1) rfl (tmp (n:=41) (by decide) k3);rw[Gc]at hr;exact qo hr ⟨_,qg rfl,rfl,jg _ _⟩
  |5,ho=>
   cases ho;cases hd;have k1:x 6=.int .u8 kd:=jo 1 _ 6 rfl rfl (qj rfl);have k4:x 9=.int .u8 sh:=jo 4 _ 9 rfl rfl (qj rfl);exact qo (Ww rfl (qy k1) (qy k4)) ⟨_,qg rfl,⟨w1.heap.size,rfl,YL _ _ _ _,YK _ _ _ _⟩,(jg _ _).alloc (ji _) _⟩
  |6,ho=>
   cases ho;cases hd;obtain⟨g,k5,q0,q1⟩:Kpb bx kd sh id n ld s0 s1 s2 s3 5 (x 10) w1:=jo 5 _ 10 rfl rfl (qj rfl);have hc:=YZ w1 g kd sh (b8 kd) (b8 sh) (by rw[zD tH]) (by rw[zD kG]) q0 q1;rw[<-e0]at hc;exact qo (UW rfl (qy k5) hc) ⟨_,qg rfl,rfl,jg _ _⟩
  |7,ho=>
   cases ho;cases hd;exact qo (G8 2 (by decide) rfl (qy x1)) ⟨_,qg rfl,rfl,jg _ _⟩
  |8,ho=>
   cases ho;cases hd;have k7:x 12=.pointer (some ⟨bx,2,none⟩):=jo 7 _ 12 rfl rfl (qj rfl);exact qo (zo (ty:=3) rfl (qy k7) (by simp[isAgg]) ((xX 2).trans c2)) ⟨_,qg rfl,rfl,jg _ _⟩
  |9,ho=>
   obtain rfl:=xop (a:=pbo 9) rfl ho;obtain rfl:=xop (a:=14) rfl hd;have k8:x 13=.int .i64 id:=jo 8 _ 13 rfl rfl (qj rfl);have hr:=F6 (o:=pbo 9) (w:=w1) rfl (tmp (n:=41) (by decide) k8) func113 (by kernel_rfl) (by kernel_rfl);refine DX hr (C1 w1) λe w2 h=>⟨_,h.1,_,qg rfl,rfl,h.2⟩
  |10,ho=>
   cases ho;cases hd;have k6:x 11=.string s0:=jo 6 _ 11 rfl rfl (qj rfl);have k9:x 14=.string s1:=jo 9 _ 14 rfl rfl (qj rfl);exact qo (FC rfl (qy k6) (qy k9) (by omega)) ⟨_,qg rfl,rfl,jg _ _⟩
  |11,ho=>
   cases ho;cases hd;exact qo (G8 3 (by decide) rfl (qy x1)) ⟨_,qg rfl,rfl,jg _ _⟩
  |12,ho=>
   cases ho;cases hd;have A9:x 16=.pointer (some ⟨bx,3,none⟩):=jo 11 _ 16 rfl rfl (qj rfl);exact qo (zo (ty:=3) rfl (qy A9) (by simp[isAgg]) ((xX 3).trans c3)) ⟨_,qg rfl,rfl,jg _ _⟩
  |13,ho=>
   obtain rfl:=xop (a:=pbo 13) rfl ho;obtain rfl:=xop (a:=18) rfl hd;have wN:x 17=.int .i64 n:=jo 12 _ 17 rfl rfl (qj rfl);have hr:=F6 (o:=pbo 13) (w:=w1) rfl (tmp (n:=41) (by decide) wN) func113 (by kernel_rfl) (by kernel_rfl);refine DX hr (C2 w1) λe w2 h=>⟨_,h.1,_,qg rfl,rfl,h.2⟩
  |14,ho=>
   cases ho;cases hd;have nE:x 15=.string (s0++s1):=jo 10 _ 15 rfl rfl (qj rfl);have Eh:x 18=.string s2:=jo 13 _ 18 rfl rfl (qj rfl);exact qo (FC rfl (qy nE) (qy Eh) (by simp only[aT];omega)) ⟨_,qg rfl,rfl,jg _ _⟩
  |15,ho=>
   cases ho;cases hd;exact qo (G8 4 (by decide) rfl (qy x1)) ⟨_,qg rfl,rfl,jg _ _⟩
  |16,ho=>
   cases ho;cases hd;have Eg:x 20=.pointer (some ⟨bx,4,none⟩):=jo 15 _ 20 rfl rfl (qj rfl);exact qo (zo (ty:=9) rfl (qy Eg) (by simp[isAgg]) ((xX 4).trans c4)) ⟨_,qg rfl,rfl,jg _ _⟩
  |17,ho=>
   obtain rfl:=xop (a:=pbo 17) rfl ho;obtain rfl:=xop (a:=22) rfl hd;have IB:x 21=.string ld:=jo 16 _ 21 rfl rfl (qj rfl);have hr:=F6 (o:=pbo 17) (w:=w1) rfl (tmp (n:=41) (by decide) IB) func114 (by kernel_rfl) (by kernel_rfl);refine DX hr (C3 w1) λe w2 h=>⟨_,h.1,_,qg rfl,rfl,h.2⟩
  |18,ho=>
   cases ho;cases hd;have Cn:x 19=.string (s0++s1++s2):=jo 14 _ 19 rfl rfl (qj rfl);have Ef:x 22=.string s3:=jo 17 _ 22 rfl rfl (qj rfl);exact qo (FC rfl (qy Cn) (qy Ef) (by simp only[aT];omega)) ⟨_,qg rfl,rfl,jg _ _⟩
  |19,ho=>
   cases ho;cases hd;have IA:x 23=.string (s0++s1++s2++s3):=jo 18 _ 23 rfl rfl (qj rfl);exact qo (Ud rfl (qy IA)) ⟨_,qg rfl,rfl,jg _ _⟩
  |k+20,ho=>exact absurd ho (by rw[ao (show pb1.size<=k+20 by show 20<=k+20;omega)];exact λe=>by cases e)
 ·intro y w1 hy hk hb;exact hQ y w1 hy (hk 19 (pbo 19) 3 rfl rfl) (Below.trans (b:=w.drew) ⟨rfl,rfl,rfl,ji _,λ_ _=>rfl⟩ hb)
end
noncomputable def db1:Array Oper:=match Tryz.f100.body with|some (.seq _ (.seq a _))=>rg a|_=>#[]
noncomputable def dbo (k:Nat):Oper:=db1.getD k ⟨none,.alloc 0,0, "",#[],none⟩
theorem q7s:E8 db1 42=true:=by kernel_rfl
section
variable {bx id n kd sh:Nat} {ld s0 s1 s2 s3:ByteArray}
def Kdb (bx kd sh id n:Nat) (ld s0 s1 s2 s3:ByteArray):Nat->ac->aa->Prop
 |0,v,_=>v=.pointer (some ⟨bx,0,none⟩)
 |1,v,_=>v=.int .i64 kd
 |2,v,_=>v=.int .u8 kd
 |3,v,_=>v=.pointer (some ⟨bx,1,none⟩)
 |4,v,_=>v=.int .i64 sh
 |5,v,_=>v=.int .u8 sh
 |6,v,w=>∃g,v=.slice (some ⟨g,0,none⟩) 2 2/\w.cell? ⟨g,0,none⟩=some (.int .u8 kd)/\w.cell? ⟨g,1,none⟩=some (.int .u8 sh)
 |7,v,_=>v=.string s0
 |8,v,_=>v=.pointer (some ⟨bx,2,none⟩)
 |9,v,_=>v=.int .i64 id
 |10,v,_=>v=.string s1
 |11,v,_=>v=.string (s0++s1)
 |12,v,_=>v=.pointer (some ⟨bx,3,none⟩)
 |13,v,_=>v=.int .i64 n
 |14,v,_=>v=.string s2
 |15,v,_=>v=.string (s0++s1++s2)
 |16,v,_=>v=.pointer (some ⟨bx,4,none⟩)
 |17,v,_=>v=.string ld
 |18,v,_=>v=.string s3
 |19,v,_=>v=.string (s0++s1++s2++s3)
 |20,v,_=>v=.string (s0++s1++s2++s3)
 |_,_,_=>True
theorem qyu (j:Nat) (v:ac) (w w':aa) (hb:ai w.heap.size w w') (h:Kdb bx kd sh id n ld s0 s1 s2 s3 j v w):Kdb bx kd sh id n ld s0 s1 s2 s3 j v w':=by
 match j,h with
 |6,h=>
  obtain⟨g,h1,h2,h3⟩:=h;have lt:g<w.heap.size:=xbl w _ h2;exact⟨g,h1,(hb.cell (p:=⟨g,0,none⟩) lt).trans h2,(hb.cell (p:=⟨g,1,none⟩) lt).trans h3⟩
 |0,h|1,h|2,h|3,h|4,h|5,h|7,h|8,h|9,h|10,h|11,h|12,h|13,h|14,h|15,h|16,h|17,h|18,h|19,h|20,h=>exact h
 |k+21,_=>trivial
theorem jgt (fC:a.tmps.size=42) (Es:a.defers=[]) (h1:a.tmps.getD 1 aR=.pointer (some ⟨bx,0,none⟩)) (c0:w.cell? ⟨bx,0,none⟩=some (.int .i64 kd)) (c1:w.cell? ⟨bx,1,none⟩=some (.int .i64 sh)) (c2:w.cell? ⟨bx,2,none⟩=some (.int .i64 id)) (c3:w.cell? ⟨bx,3,none⟩=some (.int .i64 n)) (c4:w.cell? ⟨bx,4,none⟩=some (.string ld))
  (tH:kd<256) (kG:sh<256) (e0:s0=⟨#[b8 kd,b8 sh]⟩) (l1:s1.size<=9) (l2:s2.size<=9) (l3:s3.size<=1048585)
  (C1:∀W:aa,az prog 97 #[.int .i64 id] W λe w'=>e=.returned (.string s1)/\ai W.heap.size W w') (C2:∀W:aa,az prog 97 #[.int .i64 n] W λe w'=>e=.returned (.string s2)/\ai W.heap.size W w') (C3:∀W:aa,az prog 98 #[.string ld] W λe w'=>e=.returned (.string s3)/\ai W.heap.size W w')
  (hQ:∀y w',(∀s,(∀(j:Nat) o,db1[j]?=some o->o.dst≠some s)->y s=a.tmps.getD s aR)->y 3=.string (s0++s1++s2++s3)->ai w.heap.size w w'->Q .normal ⟨lay 42 y,[]⟩ w'):(ak 1 db1 true).wp prog Q a w:=by
 have l0:s0.size=2:=by rw[e0];rfl
 have lt:bx<w.heap.size:=xbl w _ c0;have hst:=underlying182;refine Xn (n:=42) (x0:=λs=>a.tmps.getD s aR) (w0:=w.drew) (KN:=Kdb bx kd sh id n ld s0 s1 s2 s3) (by kernel_rfl) q7s ⟨_,?_,λ_=>rfl⟩ rfl qyu ?_ ?_
 ·obtain⟨t,df⟩:=a;obtain rfl:df=[]:=Es;rw[DC fC]
 ·intro j o d x w1 ho hd hx jo hb;have xX:∀f,w1.cell? ⟨bx,f,none⟩=w.cell? ⟨bx,f,none⟩:=λf=>hb.cell (p:=⟨bx,f,none⟩) lt;have x1:x 1=.pointer (some ⟨bx,0,none⟩):=(hx 1 (xD (by kernel_rfl))).trans h1;match j,ho with
  |0,ho=>
   cases ho;cases hd;exact qo (G9 0 (by decide) rfl (qy x1)) ⟨_,qg rfl,rfl,jg _ _⟩
  |1,ho=>
   cases ho;cases hd;have k0:x 5=.pointer (some ⟨bx,0,none⟩):=jo 0 _ 5 rfl rfl (qj rfl);exact qo (zo (ty:=3) rfl (qy k0) (by simp[isAgg]) ((xX 0).trans c0)) ⟨_,qg rfl,rfl,jg _ _⟩
  |2,ho=>
   obtain rfl:=xop (a:=dbo 2) rfl ho;obtain rfl:=xop (a:=7) rfl hd;have k1:x 6=.int .i64 kd:=jo 1 _ 6 rfl rfl (qj rfl);have Gc:IntKind.u8.wrap (kd:Int)=(kd:Int):=by rw[bC];omega
   have hr:=Ot (o:=dbo 2) (w:=w1) rfl (tmp (n:=42) (by decide) k1);rw[Gc]at hr;exact qo hr ⟨_,qg rfl,rfl,jg _ _⟩
  |3,ho=>
   cases ho;cases hd;exact qo (G9 1 (by decide) rfl (qy x1)) ⟨_,qg rfl,rfl,jg _ _⟩
  |4,ho=>
   cases ho;cases hd;have k3:x 8=.pointer (some ⟨bx,1,none⟩):=jo 3 _ 8 rfl rfl (qj rfl);exact qo (zo (ty:=3) rfl (qy k3) (by simp[isAgg]) ((xX 1).trans c1)) ⟨_,qg rfl,rfl,jg _ _⟩
  |5,ho=>
   obtain rfl:=xop (a:=dbo 5) rfl ho;obtain rfl:=xop (a:=10) rfl hd;have k4:x 9=.int .i64 sh:=jo 4 _ 9 rfl rfl (qj rfl);have Gc:IntKind.u8.wrap (sh:Int)=(sh:Int):=by rw[bC];omega
   have hr:=Ot (o:=dbo 5) (w:=w1) rfl (tmp (n:=42) (by decide) k4);rw[Gc]at hr;exact qo hr ⟨_,qg rfl,rfl,jg _ _⟩
  |6,ho=>
   cases ho;cases hd;have k2:x 7=.int .u8 kd:=jo 2 _ 7 rfl rfl (qj rfl);have k5:x 10=.int .u8 sh:=jo 5 _ 10 rfl rfl (qj rfl);exact qo (Ww rfl (qy k2) (qy k5)) ⟨_,qg rfl,⟨w1.heap.size,rfl,YL _ _ _ _,YK _ _ _ _⟩,(jg _ _).alloc (ji _) _⟩
  |7,ho=>
   cases ho;cases hd;obtain⟨g,k6,q0,q1⟩:Kdb bx kd sh id n ld s0 s1 s2 s3 6 (x 11) w1:=jo 6 _ 11 rfl rfl (qj rfl);have hc:=YZ w1 g kd sh (b8 kd) (b8 sh) (by rw[zD tH]) (by rw[zD kG]) q0 q1;rw[<-e0]at hc;exact qo (UW rfl (qy k6) hc) ⟨_,qg rfl,rfl,jg _ _⟩
  |8,ho=>
   cases ho;cases hd;exact qo (G9 2 (by decide) rfl (qy x1)) ⟨_,qg rfl,rfl,jg _ _⟩
  |9,ho=>
   cases ho;cases hd;have k8:x 13=.pointer (some ⟨bx,2,none⟩):=jo 8 _ 13 rfl rfl (qj rfl);exact qo (zo (ty:=3) rfl (qy k8) (by simp[isAgg]) ((xX 2).trans c2)) ⟨_,qg rfl,rfl,jg _ _⟩
  |10,ho=>
   obtain rfl:=xop (a:=dbo 10) rfl ho;obtain rfl:=xop (a:=15) rfl hd;have k9:x 14=.int .i64 id:=jo 9 _ 14 rfl rfl (qj rfl);have hr:=F6 (o:=dbo 10) (w:=w1) rfl (tmp (n:=42) (by decide) k9) func97 (by kernel_rfl) (by kernel_rfl);refine DX hr (C1 w1) λe w2 h=>⟨_,h.1,_,qg rfl,rfl,h.2⟩
  |11,ho=>
   cases ho;cases hd;have k7:x 12=.string s0:=jo 7 _ 12 rfl rfl (qj rfl);have nE:x 15=.string s1:=jo 10 _ 15 rfl rfl (qj rfl);exact qo (FC rfl (qy k7) (qy nE) (by omega)) ⟨_,qg rfl,rfl,jg _ _⟩
  |12,ho=>
   cases ho;cases hd;exact qo (G9 3 (by decide) rfl (qy x1)) ⟨_,qg rfl,rfl,jg _ _⟩
  |13,ho=>
   cases ho;cases hd;have wN:x 17=.pointer (some ⟨bx,3,none⟩):=jo 12 _ 17 rfl rfl (qj rfl);exact qo (zo (ty:=3) rfl (qy wN) (by simp[isAgg]) ((xX 3).trans c3)) ⟨_,qg rfl,rfl,jg _ _⟩
  |14,ho=>
   obtain rfl:=xop (a:=dbo 14) rfl ho;obtain rfl:=xop (a:=19) rfl hd;have Eh:x 18=.int .i64 n:=jo 13 _ 18 rfl rfl (qj rfl);have hr:=F6 (o:=dbo 14) (w:=w1) rfl (tmp (n:=42) (by decide) Eh) func97 (by kernel_rfl) (by kernel_rfl);refine DX hr (C2 w1) λe w2 h=>⟨_,h.1,_,qg rfl,rfl,h.2⟩
  |15,ho=>
   cases ho;cases hd;have A9:x 16=.string (s0++s1):=jo 11 _ 16 rfl rfl (qj rfl);have Cn:x 19=.string s2:=jo 14 _ 19 rfl rfl (qj rfl);exact qo (FC rfl (qy A9) (qy Cn) (by simp only[aT];omega)) ⟨_,qg rfl,rfl,jg _ _⟩
  |16,ho=>
   cases ho;cases hd;exact qo (G9 4 (by decide) rfl (qy x1)) ⟨_,qg rfl,rfl,jg _ _⟩
  |17,ho=>
   cases ho;cases hd;have IB:x 21=.pointer (some ⟨bx,4,none⟩):=jo 16 _ 21 rfl rfl (qj rfl);exact qo (zo (ty:=9) rfl (qy IB) (by simp[isAgg]) ((xX 4).trans c4)) ⟨_,qg rfl,rfl,jg _ _⟩
  |18,ho=>
   obtain rfl:=xop (a:=dbo 18) rfl ho;obtain rfl:=xop (a:=23) rfl hd;have Ef:x 22=.string ld:=jo 17 _ 22 rfl rfl (qj rfl);have hr:=F6 (o:=dbo 18) (w:=w1) rfl (tmp (n:=42) (by decide) Ef) func98 (by kernel_rfl) (by kernel_rfl);refine DX hr (C3 w1) λe w2 h=>⟨_,h.1,_,qg rfl,rfl,h.2⟩
  |19,ho=>
   cases ho;cases hd;have Eg:x 20=.string (s0++s1++s2):=jo 15 _ 20 rfl rfl (qj rfl);have IA:x 23=.string s3:=jo 18 _ 23 rfl rfl (qj rfl);exact qo (FC rfl (qy Eg) (qy IA) (by simp only[aT];omega)) ⟨_,qg rfl,rfl,jg _ _⟩
  |20,ho=>
   cases ho;cases hd;have PW:x 24=.string (s0++s1++s2++s3):=jo 19 _ 24 rfl rfl (qj rfl);exact qo (Ud rfl (qy PW)) ⟨_,qg rfl,rfl,jg _ _⟩
  |k+21,ho=>exact absurd ho (by rw[ao (show db1.size<=k+21 by show 21<=k+21;omega)];exact λe=>by cases e)
 ·intro y w1 hy hk hb;exact hQ y w1 hy (hk 20 (dbo 20) 3 rfl rfl) (Below.trans (b:=w.drew) ⟨rfl,rfl,rfl,ji _,λ_ _=>rfl⟩ hb)
end
section
variable {e:bp->ac} {o:Oper} {p q:bp} {v:ac} {g f k:Nat} {w:aa}
theorem run_move (h:o.op=.move p) (hp:e p=v):(ae e o).run prog w=.ok (.value v) w:=by
 unfold ae;simp[go_sem,h,hp]
theorem Ch {a:Addr} (h:o.op=.nilCheck p) (hp:e p=.pointer (some a)):(ae e o).run prog w=.ok (.value (.pointer (some a))) w:=by
 unfold ae;simp[go_sem,h,hp]
theorem OV (f:Nat) (hf:f<3) (h:o.op=.fieldAddr 80 p f) (hp:e p=.pointer (some ⟨g,k,none⟩)):(ae e o).run prog w=.ok (.value (.pointer (some ⟨g,k+f,none⟩))) w:=by
 have hu:=underlying80;have vT:f=0\/f=1\/f=2:=by omega
 have yJ:∀j,(⟨g,k,none⟩:Addr).add j=⟨g,k+j,none⟩:=λj=>aO ..;unfold ae;rcases vT with rfl|rfl|rfl<;>simp[go_sem,h,hp,hu,yJ]
end
theorem Kb (y:Nat->ac):lay 106 y=#[y 0,y 1,y 2,y 3,y 4,y 5,y 6,y 7,y 8,y 9,y 10,y 11,y 12,y 13,y 14,y 15,y 16,y 17,y 18,y 19,y 20,y 21,y 22,y 23,y 24,y 25,y 26,y 27,y 28,y 29,y 30,y 31,y 32,y 33,y 34,y 35,y 36,y 37,y 38,y 39,y 40,y 41,y 42,y 43,y 44,y 45,y 46,y 47,y 48,y 49,y 50,y 51,y 52,y 53,y 54,y 55,y 56,y 57,y 58,y 59,y 60,y 61,y 62,y 63,y 64,y 65,y 66,y 67,y 68,y 69,y 70,y 71,y 72,y 73,y 74,y 75,y 76,y 77,y 78,y 79,y 80,y 81,y 82,y 83,y 84,y 85,y 86,y 87,y 88,y 89,y 90,y 91,y 92,y 93,y 94,y 95,y 96,y 97,y 98,y 99,y 100,y 101,y 102,y 103,y 104,y 105]:=rfl
def q8n:Code->Code
 |.seq _ b=>b
 |c=>c
noncomputable def cg1:Array Oper:=match Tryz.f40.body with
 |some (.seq _ (.seq _ (.seq _ (.seq _ (.seq _ (.seq _ (.seq _ (.seq (.seq _ (.cond _ a _)) _))))))))=>rg a
 |_=>#[]
theorem XE (h:t.size=n) (g:K ⟨lay n λj=>t.getD j aR,[]⟩ w):K ⟨t,[]⟩ w:=by
 have e:lay n (λj=>t.getD j aR)=t:=by
  apply cY
  ·simp[lay,h]
  ·intro i h1 h2;simp[lay,cN,h2]
 rwa [e]at g
section
variable {cl cb n x:Nat} {pv cv:ac} {ld:ByteArray} {m:Mv} {k v:ByteArray} {g:Bool}
theorem MX.Qf {gb cap H:Nat} {c:Chg} (h:MX x n pv cv ld m w) (o:Obj) (Ei:w1=(w.alloc o).drew) (hg:w1.grownBy w3 cv.ownBlock) (hr:w3.ownsRow 0 87 3 (.slice (some ⟨gb,0,none⟩) (m.cs.length+1) cap) (m.cs.length+1) (x9 m.cs++[sv c.k,sv c.v,.bool c.g])) (ig:cv.ownBlock=some gb\/gb=H) (hH:w1.heap.size=H):
  w3.cell? ⟨x,4,none⟩=some cv/\w3.frozen? ⟨x,4,none⟩=false/\(MX x n pv (.slice (some ⟨gb,0,none⟩) (m.cs.length+1) cap) ld {m with cs:=m.cs++[c]} (w3.setCell ⟨x,4,none⟩ (.slice (some ⟨gb,0,none⟩) (m.cs.length+1) cap)))/\
   (∀b,(Value.slice (some ⟨gb,0,none⟩) (m.cs.length+1) cap).ownBlock=some b->cv.ownBlock=some b\/w.heap.size<=b)/\But (λq=>q=x\/cv.ownBlock=some q) w (w3.setCell ⟨x,4,none⟩ (.slice (some ⟨gb,0,none⟩) (m.cs.length+1) cap)):=by
 have eH:=h.lt;have hw:But (λ_=>False) w w1:=by
  subst Ei;exact⟨by simp,λb hb _=>am w o hb,rfl,rfl⟩
 have fC:=hw.size;have fA:some x≠cv.ownBlock:=λe=>by
  obtain⟨cc,hc⟩:=jm h.r e.symm;rw[h.b]at hc;cases hc
 have b3:But (λb=>cv.ownBlock=some b) w w3:=⟨by have:=hg.size;omega,λb hb hn=>(hg.block b (by omega) λe=>hn e.symm).trans (hw.keep b hb id),hg.os.trans hw.os,hg.output.trans hw.output⟩
 have gN:=(b3.keep x eH λe=>fA e.symm).trans h.b;have Qz:gb≠x:=λe=>by
  rcases ig with e2|e2
  ·exact fA (by rw[e2,e])
  ·omega
 refine⟨by simp[ah,gN,zw],by simp[ay,gN],⟨(xhs w3 x 4 _ _ _ gN).trans rfl,?_⟩,λb hb=>?_,But.setCell (b3.mono λb e=>.inr e) (.inl rfl) 4 _⟩
 ·unfold wE;rw[show({m with cs:=m.cs++[c]}:Mv).cs=m.cs++[c]from rfl,al,show x9 (m.cs++[c])=x9 m.cs++[sv c.k,sv c.v,.bool c.g] by simp[x9]];exact aD hr (a:=⟨x,4,none⟩) (λe=>Qz (xoi e)) _
 ·obtain rfl:=xoi hb;exact ig.imp id λe=>by show w.heap.size<=gb;omega
theorem Nw {F:Func} {PP:cg->aa->Prop} (ht:t.size=106) (h3:t.getD 3 aR=.pointer (some ⟨cb,0,none⟩)) (h7:t.getD 7 aR=.pointer (some ⟨cl,1+n*3,none⟩))
  (hx:MX x n pv cv ld m w) (hv:w.cell? ⟨cl,1+n*3+2,none⟩=some (.pointer (some ⟨x,0,none⟩))) (c0:w.cell? ⟨cb,0,none⟩=some (.string k)) (c1:w.cell? ⟨cb,1,none⟩=some (.string v)) (c2:w.cell? ⟨cb,2,none⟩=some (.bool g)) (oG:cv.ownBlock≠some cl) (gX:m.cs.length<=1073741820)
  (hQ:∀y w' iA,MX x n pv iA ld {m with cs:=m.cs++[Fj k v g]} w'->(∀b,iA.ownBlock=some b->cv.ownBlock=some b\/w.heap.size<=b)->But (λq=>q=x\/cv.ownBlock=some q) w w'->K ⟨lay 106 y,[]⟩ w'):(ak 16 cg1 true).wp prog (Exit.then K (bodyPost prog F PP)) ⟨t,[]⟩ w:=by
 have e:lay 106 (λj=>t.getD j aR)=t:=by
  apply cY
  ·simp[lay,ht]
  ·intro i h1 h2;simp[lay,cN,h2]
 rw[<-e];clear e;obtain⟨x3,vS⟩:∃x3:Nat->ac,(λj=>t.getD j aR)=x3:=⟨_,rfl⟩
 have h3:x3 3=.pointer (some ⟨cb,0,none⟩):=by rw[<-vS];exact h3
 have h7:x3 7=.pointer (some ⟨cl,1+n*3,none⟩):=by rw[<-vS];exact h7
 rw[vS];clear vS;obtain⟨x3,rfl⟩:=qp h3;obtain⟨x3,rfl⟩:=qp (x:=x3) (j:=7) (v:=.pointer (some ⟨cl,1+n*3,none⟩)) h7;clear h3 h7;have HX:=Hd hx;have HQ:=Hd hQ;have m4:=hx.cells.1;have l1:=hx.lt;have l2:=xbl w _ hv;have l3:=xbl w _ c0;obtain⟨ci,i1,i2,i3,i4⟩:=NK;have HI:=Hd (ag i1 (ag i2 (ag i3 i4)));clear hx hQ i1 i2 i3 i4;rw[Kb];unfold cg1;simp only[Tryz.f40,di,rg,q8n,upd,cF,if_true,if_false];go_region_law (refine step_append_lies _ rfl (.tmp 100) (.tmp 102) 130 rfl 0 87 ci _ 3 40 underlying130 HI.1 HI.2.1 HI.2.2.1 HI.2.2.2 rfl (by decide) cv m.cs.length (x9 m.cs) rfl (qi HX.r λb hb=>am w _ (aL HX.r b hb).2) ⟨w.heap.size,0,none⟩ 1 1 [.string k,.string v,.bool g] rfl rfl (cells3 w _ _ _ _) (by intro u hu;simp at hu;rcases hu with rfl|rfl|rfl<;>rfl) (by decide) (by unfold bB;omega) (by omega) (xzl _) _ rfl ?_;intro gb cap w3 hr hg ig eH;rw[<-pI k,<-pI v]at hr;have H3:=Hd (MX.Qf (c:=Fj k v g) HX.o _ rfl hg hr ig rfl);obtain⟨d3,e3,_⟩:=H3.o;have f3:=(xcb (a:=⟨cl,1+n*3+2,none⟩) (w:=w) ((hg.block cl (by simp;exact Nat.lt_succ_of_lt l2) λe=>oG e.symm).trans (am w _ l2))).trans hv;clear hr hg ig eH);all_goals exact XE rfl (HQ.o _ _ _ H3.2.2.1 H3.2.2.2.1 H3.2.2.2.2)
end
section
variable {e:bp->ac} {o:Oper} {p q:bp} {v:ac} {g f k:Nat} {w:aa}
theorem Oq (f:Nat) (hf:f<3) (h:o.op=.fieldAddr 104 p f) (hp:e p=.pointer (some ⟨g,k,none⟩)):(ae e o).run prog w=.ok (.value (.pointer (some ⟨g,k+f,none⟩))) w:=by
 have hu:=underlying104;have vT:f=0\/f=1\/f=2:=by omega
 have yJ:∀j,(⟨g,k,none⟩:Addr).add j=⟨g,k+j,none⟩:=λj=>aO ..;unfold ae;rcases vT with rfl|rfl|rfl<;>simp[go_sem,h,hp,hu,yJ]
theorem KY:∃i,prog.info? 60=some i/\i.zero=some (.agg #[.string ⟨#[]⟩,.string ⟨#[]⟩,.bool false])/\i.size=3/\i.bytes=40:=by
 have h:(prog.info? 60).map (λi=>(i.zero,i.size,i.bytes))=some (some (.agg #[.string ⟨#[]⟩,.string ⟨#[]⟩,.bool false]),3,40):=by kernel_rfl
 obtain⟨i,h1,h2⟩:=aB.1 h;injection h2 with h2 h3;injection h3 with h3 h4;exact⟨i,h1,h2,h3,h4⟩
end
theorem J4 (y:Nat->ac):lay 94 y=#[y 0,y 1,y 2,y 3,y 4,y 5,y 6,y 7,y 8,y 9,y 10,y 11,y 12,y 13,y 14,y 15,y 16,y 17,y 18,y 19,y 20,y 21,y 22,y 23,y 24,y 25,y 26,y 27,y 28,y 29,y 30,y 31,y 32,y 33,y 34,y 35,y 36,y 37,y 38,y 39,y 40,y 41,y 42,y 43,y 44,y 45,y 46,y 47,y 48,y 49,y 50,y 51,y 52,y 53,y 54,y 55,y 56,y 57,y 58,y 59,y 60,y 61,y 62,y 63,y 64,y 65,y 66,y 67,y 68,y 69,y 70,y 71,y 72,y 73,y 74,y 75,y 76,y 77,y 78,y 79,y 80,y 81,y 82,y 83,y 84,y 85,y 86,y 87,y 88,y 89,y 90,y 91,y 92,y 93]:=rfl
noncomputable def rgc (b:Code) (k:Nat):Code:=match k with
 |0=>b
 |k+1=>match b with
  |.seq _ c=>rgc c k
  |c=>c
noncomputable def dg1:Array Oper:=match rgc ((Tryz.f24.body).getD .skip) 10 with
 |.seq (.seq _ (.cond _ a _)) _=>rg a
 |_=>#[]
section
variable {sb cb n x:Nat} {pv cv:ac} {m:Mv} {k v:ByteArray} {g:Bool}
theorem RX.Qf {gb cap H:Nat} {c:Chg} (h:RX x pv cv m w) (o:Obj) (Ei:w1=(w.alloc o).drew) (hg:w1.grownBy w3 cv.ownBlock) (hr:w3.ownsRow 0 60 3 (.slice (some ⟨gb,0,none⟩) (m.cs.length+1) cap) (m.cs.length+1) (x9 m.cs++[sv c.k,sv c.v,.bool c.g])) (ig:cv.ownBlock=some gb\/gb=H) (hH:w1.heap.size=H):
  w3.cell? ⟨x,4,none⟩=some cv/\w3.frozen? ⟨x,4,none⟩=false/\(RX x pv (.slice (some ⟨gb,0,none⟩) (m.cs.length+1) cap) {m with cs:=m.cs++[c]} (w3.setCell ⟨x,4,none⟩ (.slice (some ⟨gb,0,none⟩) (m.cs.length+1) cap)))/\
   (∀b,(Value.slice (some ⟨gb,0,none⟩) (m.cs.length+1) cap).ownBlock=some b->cv.ownBlock=some b\/w.heap.size<=b)/\But (λq=>q=x\/cv.ownBlock=some q) w (w3.setCell ⟨x,4,none⟩ (.slice (some ⟨gb,0,none⟩) (m.cs.length+1) cap)):=by
 have eH:=h.lt;have hw:But (λ_=>False) w w1:=by
  subst Ei;exact⟨by simp,λb hb _=>am w o hb,rfl,rfl⟩
 have fC:=hw.size;have fA:some x≠cv.ownBlock:=λe=>by
  obtain⟨cc,hc⟩:=jm h.r e.symm;rw[h.b]at hc;cases hc
 have b3:But (λb=>cv.ownBlock=some b) w w3:=⟨by have:=hg.size;omega,λb hb hn=>(hg.block b (by omega) λe=>hn e.symm).trans (hw.keep b hb id),hg.os.trans hw.os,hg.output.trans hw.output⟩
 have gN:=(b3.keep x eH λe=>fA e.symm).trans h.b;have Qz:gb≠x:=λe=>by
  rcases ig with e2|e2
  ·exact fA (by rw[e2,e])
  ·omega
 refine⟨by simp[ah,gN,vv],by simp[ay,gN],⟨(xhs w3 x 4 _ _ _ gN).trans rfl,?_⟩,λb hb=>?_,But.setCell (b3.mono λb e=>.inr e) (.inl rfl) 4 _⟩
 ·unfold yT;rw[show({m with cs:=m.cs++[c]}:Mv).cs=m.cs++[c]from rfl,al,show x9 (m.cs++[c])=x9 m.cs++[sv c.k,sv c.v,.bool c.g] by simp[x9]];exact aD hr (a:=⟨x,4,none⟩) (λe=>Qz (xoi e)) _
 ·obtain rfl:=xoi hb;exact ig.imp id λe=>by show w.heap.size<=gb;omega
theorem Nt {F:Func} {PP:cg->aa->Prop} (ht:t.size=94) (h3:t.getD 3 aR=.pointer (some ⟨cb,0,none⟩)) (h7:t.getD 6 aR=.pointer (some ⟨sb,n*3,none⟩))
  (hx:RX x pv cv m w) (hv:w.cell? ⟨sb,n*3+2,none⟩=some (.pointer (some ⟨x,0,none⟩))) (c0:w.cell? ⟨cb,0,none⟩=some (.string k)) (c1:w.cell? ⟨cb,1,none⟩=some (.string v)) (c2:w.cell? ⟨cb,2,none⟩=some (.bool g)) (oG:cv.ownBlock≠some sb) (gX:m.cs.length<=1073741820)
  (hQ:∀y w' iA,RX x pv iA {m with cs:=m.cs++[Fj k v g]} w'->(∀b,iA.ownBlock=some b->cv.ownBlock=some b\/w.heap.size<=b)->But (λq=>q=x\/cv.ownBlock=some q) w w'->K ⟨lay 94 y,[]⟩ w'):(ak 16 dg1 true).wp prog (Exit.then K (bodyPost prog F PP)) ⟨t,[]⟩ w:=by
 have e:lay 94 (λj=>t.getD j aR)=t:=by
  apply cY
  ·simp[lay,ht]
  ·intro i h1 h2;simp[lay,cN,h2]
 rw[<-e];clear e;obtain⟨x3,vS⟩:∃x3:Nat->ac,(λj=>t.getD j aR)=x3:=⟨_,rfl⟩
 have h3:x3 3=.pointer (some ⟨cb,0,none⟩):=by rw[<-vS];exact h3
 have h7:x3 6=.pointer (some ⟨sb,n*3,none⟩):=by rw[<-vS];exact h7
 rw[vS];clear vS;obtain⟨x3,rfl⟩:=qp h3;obtain⟨x3,rfl⟩:=qp (x:=x3) (j:=6) (v:=.pointer (some ⟨sb,n*3,none⟩)) h7;clear h3 h7;have HX:=Hd hx;have HQ:=Hd hQ;have m4:=hx.cells.1;have l1:=hx.lt;have l2:=xbl w _ hv;have l3:=xbl w _ c0;obtain⟨ci,i1,i2,i3,i4⟩:=KY;have HI:=Hd (ag i1 (ag i2 (ag i3 i4)));clear hx hQ i1 i2 i3 i4;rw[J4];unfold dg1;simp only[Tryz.f24,di,rg,rgc,upd,cF,if_true,if_false];go_region_law (refine step_append_lies _ rfl (.tmp 88) (.tmp 90) 108 rfl 0 60 ci _ 3 40 underlying108 HI.1 HI.2.1 HI.2.2.1 HI.2.2.2 rfl (by decide) cv m.cs.length (x9 m.cs) rfl (qi HX.r λb hb=>am w _ (aL HX.r b hb).2) ⟨w.heap.size,0,none⟩ 1 1 [.string k,.string v,.bool g] rfl rfl (cells3 w _ _ _ _) (by intro u hu;simp at hu;rcases hu with rfl|rfl|rfl<;>rfl) (by decide) (by unfold bB;omega) (by omega) (xzl _) _ rfl ?_;intro gb cap w3 hr hg ig eH;rw[<-pI k,<-pI v]at hr;have H3:=Hd (RX.Qf (c:=Fj k v g) HX.o _ rfl hg hr ig rfl);obtain⟨d3,e3,_⟩:=H3.o;have f3:=(xcb (a:=⟨sb,n*3+2,none⟩) (w:=w) ((hg.block sb (by simp;exact Nat.lt_succ_of_lt l2) λe=>oG e.symm).trans (am w _ l2))).trans hv;clear hr hg ig eH);all_goals exact XE rfl (HQ.o _ _ _ H3.2.2.1 H3.2.2.2.1 H3.2.2.2.2)
end
section
variable {e:bp->ac} {o:Oper} {p q r s:bp} {v:ac} {g f k:Nat} {w:aa} {i j l:Int} {sa:Option Addr} {n cp:Nat}
theorem NU (h:o.op=.fieldAddr 101 p 1) (hp:e p=.pointer (some ⟨g,0,none⟩)):(ae e o).run prog w=.ok (.value (.pointer (some ⟨g,1,none⟩))) w:=by
 have hu:=underlying101;unfold ae;simp[go_sem,h,hp,hu]
theorem q5o (h:o.op=.fieldAddr 101 p 3) (hp:e p=.pointer (some ⟨g,0,none⟩)):(ae e o).run prog w=.ok (.value (.pointer (some ⟨g,3,none⟩))) w:=by
 have hu:=underlying101;unfold ae;simp[go_sem,h,hp,hu]
theorem NM {n cap:Nat} (hn:n<4) (h:o.op=.indexAddr 98 p q) (hp:e p=.slice (some ⟨g,0,none⟩) 4 cap) (hq:e q=.int .i64 n):(ae e o).run prog w=.ok (.value (.pointer (some ⟨g,n*3,none⟩))) w:=by
 have hu:=underlying98;have hS:=Tryz.sizeOf104;have h0:((n:Int)<4):=by omega
 have h1:(0:Int)<=n:=by omega
 unfold ae;simp[go_sem,h,hp,hq,hu,hS,h0,h1,hn]
theorem qwh {i j l:Int} {sa:Option Addr} {n cp:Nat} (h:o.op=.build 110 #[(0,p),(1,q),(2,r),(3,s)]) (hp:e p=.int .i64 i) (hq:e q=.int .i64 j) (hr:e r=.int .i64 l) (hs:e s=.slice sa n cp):(ae e o).run prog w=.ok (.value (.agg #[.int .i64 i,.int .i64 j,.int .i64 l,.slice sa n cp,.slice none 0 0,.string ⟨#[]⟩,.int .i64 0,.int .i64 0,.int .i64 0,.bool false])) w:=by
 unfold ae;simp[go_sem,h,hp,hq,hr,hs]
theorem q5l {i j l:Int} {sa:Option Addr} {n cp:Nat} (h:o.op=.box 110 p) (hp:e p=.agg #[.int .i64 i,.int .i64 j,.int .i64 l,.slice sa n cp,.slice none 0 0,.string ⟨#[]⟩,.int .i64 0,.int .i64 0,.int .i64 0,.bool false]):(ae e o).run prog w=.ok (.value (.pointer (some ⟨w.heap.size,0,none⟩))) (w.alloc (.cells #[.int .i64 i,.int .i64 j,.int .i64 l,.slice sa n cp,.slice none 0 0,.string ⟨#[]⟩,.int .i64 0,.int .i64 0,.int .i64 0,.bool false] 110)):=by
 have hA:=Tryz.isAgg110;unfold ae;simp[go_sem,h,hp,hA]
theorem q0y {w:aa} {x:bp} {base c:Nat} {news:List ac} {sa:Option Addr} {next:Act->aa->Prop} (ho:o.op=.call {callee:=.builtin .append,args:=#[.const (.slice none 0 0),x],argTypes:=#[47,47]})
  (ex:a.eval x=.slice sa m c) (hs:Src w sa m news) (hb:m<=1073741820) (kK:base<=w.heap.size) (h:∀v' w',w'.ownsRow base 74 2 v' m news->w.grownBy w' none->next (a.put o.dst v') w'):o.wp prog a w next Q:=by
 obtain⟨v',w',hr,h2,h3,h4⟩:=Ue (c:=c) (v:=.slice none 0 0) (n:=0) (xs:=[]) o.type (aH w base _ _) (kS.nil w) hs (by omega) kK;have e0:a.eval (.const (.slice none 0 0))=.slice none 0 0:=rfl;unfold Oper.wp ae;simp only[ho,resolve,invoke,builtin,Sem.run_bind,Sem.run_pure,Result.andThen_ok,List.map_toArray,cT,dc,e0,ex,hr];rw[bE]at h2;exact h v' w' h2 h4
theorem q9t {w:aa} {base cp:Nat} {sa:Option Addr} {l:KV} (h:zy w base (.slice sa l.length cp) l):Src w sa l.length (flat l):=by
 rcases h.1.2 with⟨e,hz⟩|⟨g,cap,cur,e,_⟩
 ·injection e with e1;exact⟨by rw[Lu],λad e2=>(by rw[e1]at e2;cases e2),λ_=>hz,λu hu=>Om hu⟩
 ·injection e with e1 e2 e3;refine⟨by rw[Lu],λad e4 j u hj=>?_,λe4=>(by rw[e1]at e4;cases e4),λu hu=>Om hu⟩;rw[e1]at e4;cases e4;exact h.1.cells (g:=g) (by rw[e1];rfl) j u hj
end
noncomputable def eg1:Array Oper:=match Tryz.f59.body with
 |some (.seq _ a)=>rg a
 |_=>#[]
theorem jio (y:Nat->ac):lay 44 y=#[y 0,y 1,y 2,y 3,y 4,y 5,y 6,y 7,y 8,y 9,y 10,y 11,y 12,y 13,y 14,y 15,y 16,y 17,y 18,y 19,y 20,y 21,y 22,y 23,y 24,y 25,y 26,y 27,y 28,y 29,y 30,y 31,y 32,y 33,y 34,y 35,y 36,y 37,y 38,y 39,y 40,y 41,y 42,y 43]:=rfl
noncomputable def ego (k:Nat):Oper:=eg1.getD k ⟨none,.alloc 0,0, "",#[],none⟩
theorem q71:Dr eg1 44=true:=by kernel_rfl
section
variable {ml sb n cap id ow to cp:Nat} {sa:Option Addr} {L:KV} {w0:aa}
def Keg (ml sb n cap id ow to cp:Nat) (sa:Option Addr) (L:KV) (w0:aa):Nat->ac->aa->Prop
 |0,u,_=>u=.pointer (some ⟨ml,0,none⟩)
 |1,u,_=>u=.pointer (some ⟨ml,0,none⟩)
 |2,u,_=>u=.pointer (some ⟨ml,1,none⟩)
 |3,u,_=>u=.slice (some ⟨sb,0,none⟩) 4 cap
 |4,u,_=>u=.int .i64 n
 |5,u,_=>u=.pointer (some ⟨ml,0,none⟩)
 |6,u,_=>u=.pointer (some ⟨ml,0,none⟩)
 |7,u,_=>u=.pointer (some ⟨ml,3,none⟩)
 |8,u,_=>u=.int .i64 id
 |9,u,_=>u=.pointer (some ⟨ml,0,none⟩)
 |10,u,_=>u=.pointer (some ⟨ml,0,none⟩)
 |11,u,_=>u=.pointer (some ⟨ml,1,none⟩)
 |12,u,_=>u=.slice (some ⟨sb,0,none⟩) 4 cap
 |13,u,_=>u=.int .i64 n
 |14,u,_=>u=.pointer (some ⟨sb,n*3,none⟩)
 |15,u,_=>u=.pointer (some ⟨sb,n*3,none⟩)
 |16,u,_=>u=.int .i64 ow
 |17,u,_=>u=.int .i64 to
 |18,u,_=>u=.pointer (some ⟨ml,0,none⟩)
 |19,u,_=>u=.pointer (some ⟨ml,0,none⟩)
 |20,u,_=>u=.pointer (some ⟨ml,1,none⟩)
 |21,u,_=>u=.slice (some ⟨sb,0,none⟩) 4 cap
 |22,u,_=>u=.int .i64 n
 |23,u,_=>u=.pointer (some ⟨sb,n*3,none⟩)
 |24,u,_=>u=.pointer (some ⟨sb,n*3+1,none⟩)
 |25,u,_=>u=.slice sa L.length cp
 |26,u,w=>∃s c,u=.slice s L.length c/\w.ownsRow w0.heap.size 74 2 u L.length (flat L)
 |27,u,w=>∃s c,u=.agg #[.int .i64 id,.int .i64 ow,.int .i64 to,(.slice s L.length c),.slice none 0 0,.string ⟨#[]⟩,.int .i64 0,.int .i64 0,.int .i64 0,.bool false]/\w.ownsRow w0.heap.size 74 2 (.slice s L.length c) L.length (flat L)
 |28,u,w=>∃s c g,u=.pointer (some ⟨g,0,none⟩)/\w0.heap.size<=g/\w.heap[g]?=some (.cells #[.int .i64 id,.int .i64 ow,.int .i64 to,(.slice s L.length c),.slice none 0 0,.string ⟨#[]⟩,.int .i64 0,.int .i64 0,.int .i64 0,.bool false] 110 (0,0))/\w.ownsRow w0.heap.size 74 2 (.slice s L.length c) L.length (flat L)
 |29,u,_=>u=.pointer (some ⟨sb,n*3,none⟩)
 |30,u,_=>u=.pointer (some ⟨sb,n*3+2,none⟩)
 |_,_,_=>True
theorem Wm (j:Nat) (u:ac) (w w':aa) (hb:ai w.heap.size w w') (h:Keg ml sb n cap id ow to cp sa L w0 j u w):Keg ml sb n cap id ow to cp sa L w0 j u w':=by
 match j,h with
 |0,h|1,h|2,h|3,h|4,h|5,h|6,h|7,h|8,h|9,h|10,h|11,h|12,h|13,h|14,h|15,h|16,h|17,h|18,h|19,h|20,h|21,h|22,h|23,h|24,h|25,h=>exact h
 |26,⟨s,c,h1,h2⟩=>exact⟨s,c,h1,qi h2 λq hq=>hb.block q (h2.lt q hq).2⟩
 |27,⟨s,c,h1,h2⟩=>exact⟨s,c,h1,qi h2 λq hq=>hb.block q (h2.lt q hq).2⟩
 |28,⟨s,c,g,h1,h2,h3,h4⟩=>exact⟨s,c,g,h1,h2,(hb.block g (zi h3).1).trans h3,qi h4 λq hq=>hb.block q (h4.lt q hq).2⟩
 |29,h|30,h=>exact h
 |i+31,_=>trivial
theorem jgw (fC:a.tmps.size=44) (Es:a.defers=[]) (h0:a.tmps.getD 0 aR=.pointer (some ⟨ml,0,none⟩)) (h1:a.tmps.getD 1 aR=.int .i64 n) (h2:a.tmps.getD 2 aR=.int .i64 to)
  (hn:n<4) (cI:w.cell? ⟨ml,3,none⟩=some (.int .i64 id)) (cS:w.cell? ⟨ml,1,none⟩=some (.slice (some ⟨sb,0,none⟩) 4 cap)) (cO:w.cell? ⟨sb,n*3,none⟩=some (.int .i64 ow)) (cL:w.cell? ⟨sb,n*3+1,none⟩=some (.slice sa L.length cp)) (cV:∃v,w.cell? ⟨sb,n*3+2,none⟩=some v) (fV:w.frozen? ⟨sb,n*3+2,none⟩=false) (hr:zy w 0 (.slice sa L.length cp) L) (hL:L.length<=1073741820)
  (hQ:∀y w1 g s c,(∀s,(∀(j:Nat) o,eg1[j]?=some o->o.dst≠some s)->y s=a.tmps.getD s aR)->ai w.heap.size w w1->w.heap.size<=g->w1.heap[g]?=some (.cells #[.int .i64 id,.int .i64 ow,.int .i64 to,(.slice s L.length c),.slice none 0 0,.string ⟨#[]⟩,.int .i64 0,.int .i64 0,.int .i64 0,.bool false] 110 (0,0))->w1.ownsRow w.heap.size 74 2 (.slice s L.length c) L.length (flat L)->Q .normal ⟨lay 44 y,[]⟩ (w1.setCell ⟨sb,n*3+2,none⟩ (.pointer (some ⟨g,0,none⟩)))):(ak 1 eg1 true).wp prog Q a w:=by
 have Cm:=xbl w _ cI;have lts:=xbl w _ cO;refine Xl (n:=44) (x0:=λs=>a.tmps.getD s aR) (turn:=32) (KN:=Keg ml sb n cap id ow to cp sa L w) (J:=λ_ w1=>ai w.heap.size w w1) (by kernel_rfl) q71 ⟨_,?_,λ_=>rfl⟩ (aI (jg _ _)) ?_ ?_
 ·obtain⟨t,df⟩:=a;obtain rfl:df=[]:=Es;rw[DC fC]
 ·intro j o d y w1 b Je ho hd hy jo hJ;have old:∀q,q<w.heap.size->w1.heap[q]?=w.heap[q]?:=λq h1=>hJ.block q h1;have y0:y 0=.pointer (some ⟨ml,0,none⟩):=(hy 0 (xD (by kernel_rfl))).trans h0;have y1:y 1=.int .i64 n:=(hy 1 (xD (by kernel_rfl))).trans h1;have y2:y 2=.int .i64 to:=(hy 2 (xD (by kernel_rfl))).trans h2;match j,ho with
  |0,ho=>
   cases ho;cases hd;exact qo (run_move rfl (qy y0)) ⟨_,qg rfl,rfl,hJ,λ_ _ _ h=>h⟩
  |1,ho=>
   cases ho;cases hd;have k0:y 13=.pointer (some ⟨ml,0,none⟩):=jo 0 _ 13 rfl rfl (qj rfl);exact qo (Ch rfl (qy k0)) ⟨_,qg rfl,rfl,hJ,λ_ _ _ h=>h⟩
  |2,ho=>
   cases ho;cases hd;have k1:y 14=.pointer (some ⟨ml,0,none⟩):=jo 1 _ 14 rfl rfl (qj rfl);exact qo (NU rfl (qy k1)) ⟨_,qg rfl,rfl,hJ,λ_ _ _ h=>h⟩
  |3,ho=>
   cases ho;cases hd;have k2:y 15=.pointer (some ⟨ml,1,none⟩):=jo 2 _ 15 rfl rfl (qj rfl);exact qo (zo (ty:=98) rfl (qy k2) (by simp[isAgg]) ((xcb (old ml Cm)).trans cS)) ⟨_,qg rfl,rfl,hJ,λ_ _ _ h=>h⟩
  |4,ho=>
   cases ho;cases hd;exact qo (run_move rfl (qy y1)) ⟨_,qg rfl,rfl,hJ,λ_ _ _ h=>h⟩
  |5,ho=>
   cases ho;cases hd;exact qo (run_move rfl (qy y0)) ⟨_,qg rfl,rfl,hJ,λ_ _ _ h=>h⟩
  |6,ho=>
   cases ho;cases hd;have k5:y 18=.pointer (some ⟨ml,0,none⟩):=jo 5 _ 18 rfl rfl (qj rfl);exact qo (Ch rfl (qy k5)) ⟨_,qg rfl,rfl,hJ,λ_ _ _ h=>h⟩
  |7,ho=>
   cases ho;cases hd;have k6:y 19=.pointer (some ⟨ml,0,none⟩):=jo 6 _ 19 rfl rfl (qj rfl);exact qo (q5o rfl (qy k6)) ⟨_,qg rfl,rfl,hJ,λ_ _ _ h=>h⟩
  |8,ho=>
   cases ho;cases hd;have k7:y 20=.pointer (some ⟨ml,3,none⟩):=jo 7 _ 20 rfl rfl (qj rfl);exact qo (zo (ty:=3) rfl (qy k7) (by simp[isAgg]) ((xcb (old ml Cm)).trans cI)) ⟨_,qg rfl,rfl,hJ,λ_ _ _ h=>h⟩
  |9,ho=>
   cases ho;cases hd;exact qo (run_move rfl (qy y0)) ⟨_,qg rfl,rfl,hJ,λ_ _ _ h=>h⟩
  |10,ho=>
   cases ho;cases hd;have k9:y 22=.pointer (some ⟨ml,0,none⟩):=jo 9 _ 22 rfl rfl (qj rfl);exact qo (Ch rfl (qy k9)) ⟨_,qg rfl,rfl,hJ,λ_ _ _ h=>h⟩
  |11,ho=>
   cases ho;cases hd;have nE:y 23=.pointer (some ⟨ml,0,none⟩):=jo 10 _ 23 rfl rfl (qj rfl);exact qo (NU rfl (qy nE)) ⟨_,qg rfl,rfl,hJ,λ_ _ _ h=>h⟩
  |12,ho=>
   cases ho;cases hd;have A9:y 24=.pointer (some ⟨ml,1,none⟩):=jo 11 _ 24 rfl rfl (qj rfl);exact qo (zo (ty:=98) rfl (qy A9) (by simp[isAgg]) ((xcb (old ml Cm)).trans cS)) ⟨_,qg rfl,rfl,hJ,λ_ _ _ h=>h⟩
  |13,ho=>
   cases ho;cases hd;exact qo (run_move rfl (qy y1)) ⟨_,qg rfl,rfl,hJ,λ_ _ _ h=>h⟩
  |14,ho=>
   cases ho;cases hd;have wN:y 25=.slice (some ⟨sb,0,none⟩) 4 cap:=jo 12 _ 25 rfl rfl (qj rfl);have Eh:y 26=.int .i64 n:=jo 13 _ 26 rfl rfl (qj rfl);exact qo (NM hn rfl (qy wN) (qy Eh)) ⟨_,qg rfl,rfl,hJ,λ_ _ _ h=>h⟩
  |15,ho=>
   cases ho;cases hd;have Cn:y 27=.pointer (some ⟨sb,n*3,none⟩):=jo 14 _ 27 rfl rfl (qj rfl);exact qo (Oq 0 (by decide) rfl (qy Cn)) ⟨_,qg rfl,rfl,hJ,λ_ _ _ h=>h⟩
  |16,ho=>
   cases ho;cases hd;have Eg:y 28=.pointer (some ⟨sb,n*3,none⟩):=jo 15 _ 28 rfl rfl (qj rfl);exact qo (zo (ty:=3) rfl (qy Eg) (by simp[isAgg]) ((xcb (old sb lts)).trans cO)) ⟨_,qg rfl,rfl,hJ,λ_ _ _ h=>h⟩
  |17,ho=>
   cases ho;cases hd;exact qo (run_move rfl (qy y2)) ⟨_,qg rfl,rfl,hJ,λ_ _ _ h=>h⟩
  |18,ho=>
   cases ho;cases hd;exact qo (run_move rfl (qy y0)) ⟨_,qg rfl,rfl,hJ,λ_ _ _ h=>h⟩
  |19,ho=>
   cases ho;cases hd;have IA:y 31=.pointer (some ⟨ml,0,none⟩):=jo 18 _ 31 rfl rfl (qj rfl);exact qo (Ch rfl (qy IA)) ⟨_,qg rfl,rfl,hJ,λ_ _ _ h=>h⟩
  |20,ho=>
   cases ho;cases hd;have PW:y 32=.pointer (some ⟨ml,0,none⟩):=jo 19 _ 32 rfl rfl (qj rfl);exact qo (NU rfl (qy PW)) ⟨_,qg rfl,rfl,hJ,λ_ _ _ h=>h⟩
  |21,ho=>
   cases ho;cases hd;have k20:y 33=.pointer (some ⟨ml,1,none⟩):=jo 20 _ 33 rfl rfl (qj rfl);exact qo (zo (ty:=98) rfl (qy k20) (by simp[isAgg]) ((xcb (old ml Cm)).trans cS)) ⟨_,qg rfl,rfl,hJ,λ_ _ _ h=>h⟩
  |22,ho=>
   cases ho;cases hd;exact qo (run_move rfl (qy y1)) ⟨_,qg rfl,rfl,hJ,λ_ _ _ h=>h⟩
  |23,ho=>
   cases ho;cases hd;have k21:y 34=.slice (some ⟨sb,0,none⟩) 4 cap:=jo 21 _ 34 rfl rfl (qj rfl);have k22:y 35=.int .i64 n:=jo 22 _ 35 rfl rfl (qj rfl);exact qo (NM hn rfl (qy k21) (qy k22)) ⟨_,qg rfl,rfl,hJ,λ_ _ _ h=>h⟩
  |24,ho=>
   cases ho;cases hd;have k23:y 36=.pointer (some ⟨sb,n*3,none⟩):=jo 23 _ 36 rfl rfl (qj rfl);exact qo (Oq 1 (by decide) rfl (qy k23)) ⟨_,qg rfl,rfl,hJ,λ_ _ _ h=>h⟩
  |25,ho=>
   cases ho;cases hd;have k24:y 37=.pointer (some ⟨sb,n*3+1,none⟩):=jo 24 _ 37 rfl rfl (qj rfl);exact qo (zo (ty:=47) rfl (qy k24) (by simp[isAgg]) ((xcb (old sb lts)).trans cL)) ⟨_,qg rfl,rfl,hJ,λ_ _ _ h=>h⟩
  |26,ho=>
   cases ho;cases hd;have k25:y 38=.slice sa L.length cp:=jo 25 _ 38 rfl rfl (qj rfl);refine q0y (base:=w.heap.size) rfl (qy k25) (q9t (hr.block λq hq=>old q (hr.1.lt q hq).2)) hL hJ.size ?_;intro v' w2 xN gL;obtain⟨s,c,rfl⟩:=xg xN;have hb:ai w1.heap.size w1 w2:=(jg _ _).grown gL (ji _) λq hq=>by cases hq
   exact⟨_,qg rfl,⟨s,c,rfl,xN⟩,hJ.trans (hb.mono hJ.size),λi u _ h=>Wm i u _ _ hb h⟩
  |27,ho=>
   cases ho;cases hd;have k8:y 21=.int .i64 id:=jo 8 _ 21 rfl rfl (qj rfl);have IB:y 29=.int .i64 ow:=jo 16 _ 29 rfl rfl (qj rfl);have Ef:y 30=.int .i64 to:=jo 17 _ 30 rfl rfl (qj rfl);obtain⟨s,c,Yg,r26⟩:Keg ml sb n cap id ow to cp sa L w 26 (y 39) w1:=jo 26 _ 39 rfl rfl (qj rfl);exact qo (qwh rfl (qy k8) (qy IB) (qy Ef) (qy Yg)) ⟨_,qg rfl,⟨s,c,rfl,Yg▸r26⟩,hJ,λ_ _ _ h=>h⟩
  |28,ho=>
   cases ho;cases hd;obtain⟨s,c,k27,TQ⟩:Keg ml sb n cap id ow to cp sa L w 27 (y 40) w1:=jo 27 _ 40 rfl rfl (qj rfl);have gB:ai w1.heap.size w1 (w1.alloc (.cells #[.int .i64 id,.int .i64 ow,.int .i64 to,(.slice s L.length c),.slice none 0 0,.string ⟨#[]⟩,.int .i64 0,.int .i64 0,.int .i64 0,.bool false] 110)):=(jg _ _).alloc (ji _) _;exact qo (q5l rfl (qy k27)) ⟨_,qg rfl,⟨s,c,w1.heap.size,rfl,hJ.size,bh _ _,qi TQ λq hq=>gB.block q (TQ.lt q hq).2⟩,hJ.trans (gB.mono hJ.size),λi u _ h=>Wm i u _ _ gB h⟩
  |29,ho=>
   cases ho;cases hd;have k3:y 16=.slice (some ⟨sb,0,none⟩) 4 cap:=jo 3 _ 16 rfl rfl (qj rfl);have k4:y 17=.int .i64 n:=jo 4 _ 17 rfl rfl (qj rfl);exact qo (NM hn rfl (qy k3) (qy k4)) ⟨_,qg rfl,rfl,hJ,λ_ _ _ h=>h⟩
  |30,ho=>
   cases ho;cases hd;have k29:y 42=.pointer (some ⟨sb,n*3,none⟩):=jo 29 _ 42 rfl rfl (qj rfl);exact qo (Oq 2 (by decide) rfl (qy k29)) ⟨_,qg rfl,rfl,hJ,λ_ _ _ h=>h⟩
  |31,ho=>
   obtain rfl:=xop (a:=ego 31) rfl ho;exact absurd (show(ego 31).dst=none from rfl) (by rw[hd];exact λe=>by cases e)
  |i+32,ho=>exact absurd ho (by rw[ao (show eg1.size<=i+32 by show 32<=i+32;omega)];exact λe=>by cases e)
 ·intro mm o y w1 tC ho hy hk hJ;obtain rfl:mm=31:=by
   have:mm+1=32:=tC;omega
  obtain rfl:=xop (a:=ego 31) rfl ho;have ka:y 43=.pointer (some ⟨sb,n*3+2,none⟩):=hk 30 (ego 30) 43 rfl rfl;obtain⟨s,c,g,kb,q1,q2,q3⟩:Keg ml sb n cap id ow to cp sa L w 28 (y 41) w1:=hk 28 (ego 28) 41 rfl rfl;obtain⟨v0,cV⟩:=cV;have eH:=xbl w _ cV;have kI:w1.cell? ⟨sb,n*3+2,none⟩=some v0:=(xcb (hJ.block _ eH)).trans cV;have gF:w1.frozen? ⟨sb,n*3+2,none⟩=false:=(bX (hJ.block _ eH)).trans fV;have hr:(ae (bV (lay 44 y) []).eval (ego 31)).run prog w1=.ok .skip (w1.setCell ⟨sb,n*3+2,none⟩ (.pointer (some ⟨g,0,none⟩))):=by
   have e1:(bV (lay 44 y) []).eval (.tmp 43)=.pointer (some ⟨sb,n*3+2,none⟩):=tmp (by decide) ka;have e2:(bV (lay 44 y) []).eval (.tmp 41)=.pointer (some ⟨g,0,none⟩):=tmp (by decide) kb;have eU:(ego 31).op=.store 102 (.tmp 43) (.tmp 41):=rfl;have hu:=underlying102;generalize (bV (lay 44 y) []).eval=ev at*;unfold ae;simp[go_sem,eU,e1,e2,hu,isAgg,kI,gF]
  unfold Oper.wp;rw[hr];exact hQ y w1 g s c hy hJ q1 q2 q3
end
section
variable {w w':aa} {cl db mb x n:Nat} {L:KV} {pv cv:ac} {ld:ByteArray} {m:Mv}
theorem Ou {w4:aa} {v:ByteArray} {g:Bool} {iA:ac} (he:pJ L k.data.toList v.data.toList g=0/\chL L k.data.toList v.data.toList g=X) (hm:zk w3 mb X) (hx:MX x n pv cv ld m w3) (h3:But (· =mb) w w3)
  (h4:MX x n pv iA ld {m with cs:=m.cs++[Fj k v g]} w4/\(∀b,iA.ownBlock=some b->cv.ownBlock=some b\/w3.heap.size<=b)/\But (λq=>q=x\/cv.ownBlock=some q) w3 w4):
  Ky w mb x n pv cv ld m (chL L k.data.toList v.data.toList g) (csL L m.cs k v g) (pJ L k.data.toList v.data.toList g) (.returned (.int .i64 0)) w4:=by
 unfold csL;rw[he.1,he.2,if_pos rfl];refine⟨rfl,hm.block (h4.2.2.keep _ hm.lt ?_),⟨iA,h4.1,λb hb=>(h4.2.1 b hb).imp id λe=>xlt h3.size e⟩,(h3.mono λb e=>.inl e).trans (h4.2.2.mono λb e=>.inr e)⟩;rintro(e|e)
 ·exact ve hm hx.b e.symm
 ·obtain⟨c,hc⟩:=jm hx.r e;exact ve hm hc rfl
theorem qr4 (k v:ByteArray) (g:Bool) (n:Nat) (hn:n<4) (hk:jD k.data.toList=true) (lZ:jk k.data.toList=n) (jV:k.size<=bB) (hL:L.length<=12) (hp:uK w cl n db mb (some ⟨x,0,none⟩) L) (hx:MX x n pv cv ld m w) (hs:m.sealed=false) (gX:m.cs.length<=1073741820) (oG:cv.ownBlock≠some cl):
  az prog 40 #[.pointer (some ⟨cl,0,none⟩),.agg #[.string k,.string v,.bool g]] w (Ky w mb x n pv cv ld m (chL L k.data.toList v.data.toList g) (csL L m.cs k v g) (pJ L k.data.toList v.data.toList g)):=by
 have tq:((n:Int)<4):=by omega
 have HX:=Hd hx;have HS:=Hd hs;have RI:=Hd oG;clear hx hs oG;have HCB:Hid (cv.ownBlock≠some w.heap.size):=Hd λe=>absurd (aL HX.r _ e).2 (Nat.lt_irrefl _);go_enter func40,ntmps40;go_wp2_with (go_at_call 41;refine(GR _ _ hk).mono ?_;rintro e w1 ⟨rfl,hb⟩;rw[lZ])
 obtain⟨kI,oH⟩:=ChW.of hp hb;clear hb hp;have JF:=Hd oH;have vX:=Hd (ag kI (HX.below oH));obtain⟨c0,c1,c2,pd,pv',pm,pl⟩:=id kI;clear oH kI pl;go_region_held3 (λw'=>w'.cell? ⟨cl,1+n*3+1,none⟩=some (.pointer (some ⟨db,0,none⟩))/\w'.cell? ⟨w.heap.size,0,none⟩=some (.string k)/\Hid (ChM w.heap.size cl n db mb x pv cv ld m L k v g w'/\ai w.heap.size w w'))
  (first|exact⟨pd,c0,Hd ⟨⟨vX.1.drew,vX.2.below (aI (jg _ _))⟩,JF.drew⟩⟩|exact⟨(jB.1).1.d,(jB.1).1.c0,jB⟩)
  (first|(go_at_call 42;refine(VO (by assumption) jV).mono ?_;rintro e w2 ⟨rfl,kX⟩;have jB:=Hd kX;clear kX))
 obtain⟨has,gQ⟩:∃b,(jh L k.data.toList).isSome=b:=⟨_,rfl⟩
 rw[gQ];have HF:=Hd gQ;clear gQ;generalize sv ((jh L k.data.toList).getD [])=gv;obtain⟨e0,e1,e2,ed,ev,em,el⟩:=jB.1.1;obtain⟨q1,q2,q3⟩:=jB.1.2.cells;rw[HS.o]at q2;have EL:=Hd el;clear el;by_cases iX:12<v.size
 ·have HE:=Hd (Kk (L:=L) (k:=k.data.toList) (g:=g) (v:=v.data.toList) (by simpa using iX));have g1:decide ((12:Int)<v.size)=true:=by simp;omega
  go_wp2;go_ret;unfold csL;rw[HE.1,HE.2,if_neg (by decide)];exact .idle jB.1.2 EL.o jB.2
 have HG:=Hd (Kj (L:=L) (k:=k.data.toList) (g:=g) (v:=v.data.toList) (by simpa using iX));rw[HF.o]at HG;have g1:decide ((12:Int)<v.size)=false:=by simp;omega
 cases g
 ·cases has
  ·by_cases jT:L.length=12
   ·have HE:=Hd (HG.1 rfl rfl jT);go_wp2_with (go_at_call 68;refine(Kq em EL.o).mono ?_;rintro e w' ⟨rfl,rfl⟩)
    go_ret;unfold csL;rw[HE.1,HE.2,if_neg (by decide)];exact .idle jB.1.2 EL.o jB.2
   ·have HE:=Hd (HG.2.1 rfl (.inr jT));go_wp2_with (go_at_call 68;refine(Kq em EL.o).mono ?_;rintro e w' ⟨rfl,rfl⟩)
    refine aW 5 (by kernel_rfl) (by kernel_rfl) ?_;change wpStill _ _ w2.drew (λa'=>wpList _ _ _ _ a' w2.drew) _ _;simp only[aY,bG,aZ,bH];repeat still_step
    refine cn ?_;go_wp2_with (go_at_call 69;refine(GX (w:=w2.drew) em (EL.block rfl) (by omega) k v jV).mono ?_;rintro e w3 ⟨rfl,ru,gN⟩;have mM:=Hd (ag (jB.1.1.drew.but gN ru) ((jB.1.2.below (w':=w2.drew) (aI (jg _ _))).but (EL.block rfl) gN));have oK:=Hd ((But.of_below (B:=(· =mb)) jB.2).drew.trans gN);obtain⟨f0,f1,f2,fd,fv,fm,fl⟩:=mM.1;clear fl ru gN)
    change co _ (ak 16 cg1 true) _ _ _;refine Nw (cb:=w.heap.size) (k:=k) (v:=v) (g:=false) rfl rfl rfl mM.2 fv f0 f1 f2 RI.o gX λy w4 iA rq oU jG=>?_;rw[Kb];have H4:=Hd (ag rq (ag oU jG));clear rq oU jG;go_wp2;go_ret;exact Ou HE.o mM.1.l mM.2 oK.o H4.o
  ·have HE:=Hd (HG.2.1 rfl (.inl rfl));go_wp2;refine aW 5 (by kernel_rfl) (by kernel_rfl) ?_;change wpStill _ _ w2.drew (λa'=>wpList _ _ _ _ a' w2.drew) _ _;simp only[aY,bG,aZ,bH];repeat still_step
   refine cn ?_;go_wp2_with (go_at_call 69;refine(GX (w:=w2.drew) em (EL.block rfl) (by omega) k v jV).mono ?_;rintro e w3 ⟨rfl,ru,gN⟩;have mM:=Hd (ag (jB.1.1.drew.but gN ru) ((jB.1.2.below (w':=w2.drew) (aI (jg _ _))).but (EL.block rfl) gN));have oK:=Hd ((But.of_below (B:=(· =mb)) jB.2).drew.trans gN);obtain⟨f0,f1,f2,fd,fv,fm,fl⟩:=mM.1;clear fl ru gN)
   change co _ (ak 16 cg1 true) _ _ _;refine Nw (cb:=w.heap.size) (k:=k) (v:=v) (g:=false) rfl rfl rfl mM.2 fv f0 f1 f2 RI.o gX λy w4 iA rq oU jG=>?_;rw[Kb];have H4:=Hd (ag rq (ag oU jG));clear rq oU jG;go_wp2;go_ret;exact Ou HE.o mM.1.l mM.2 oK.o H4.o
 ·cases has
  ·have HE:=Hd (HG.2.2.1 rfl rfl);go_wp2;go_ret;unfold csL;rw[HE.1,HE.2,if_neg (by decide)];exact .idle jB.1.2 EL.o jB.2
  ·have HE:=Hd (HG.2.2.2 rfl rfl);go_wp2;refine aW 5 (by kernel_rfl) (by kernel_rfl) ?_;change wpStill _ _ w2.drew (λa'=>wpList _ _ _ _ a' w2.drew) _ _;simp only[aY,bG,aZ,bH];repeat still_step
   refine cn ?_;go_wp2_with (go_at_call 69;refine(NE (w:=w2.drew) em (EL.block rfl) k v jV).mono ?_;rintro e w3 ⟨rfl,ru,gN⟩;have mM:=Hd (ag (jB.1.1.drew.but gN ru) ((jB.1.2.below (w':=w2.drew) (aI (jg _ _))).but (EL.block rfl) gN));have oK:=Hd ((But.of_below (B:=(· =mb)) jB.2).drew.trans gN);obtain⟨f0,f1,f2,fd,fv,fm,fl⟩:=mM.1;clear fl ru gN)
   change co _ (ak 16 cg1 true) _ _ _;refine Nw (cb:=w.heap.size) (k:=k) (v:=v) (g:=true) rfl rfl rfl mM.2 fv f0 f1 f2 RI.o gX λy w4 iA rq oU jG=>?_;rw[Kb];have H4:=Hd (ag rq (ag oU jG));clear rq oU jG;go_wp2;go_ret;exact Ou HE.o mM.1.l mM.2 oK.o H4.o
end
end Ph
open Go.RowKit Go.Maps
section
variable {w w':aa} {F F':Nat->Prop} {A:PA} {s:St} {n:Nat}
def sN:Option Mv->Bool
 |none=>false
 |some m=>m.sealed
theorem mU.keep {m:Option Mv} (h:mU w F A i m) (k1:∀b cur,A.mp i=some b->w.heap[b]?=some (aF cur 135 (0,0))->w'.heap[b]?=w.heap[b]?) (k2:∀b cur,(A.pv i).ownBlock=some b->w.heap[b]?=some (aF cur 74 (0,0))->w'.heap[b]?=w.heap[b]?) (k3:∀b cur,(A.cv i).ownBlock=some b->w.heap[b]?=some (aF cur 87 (0,0))->w'.heap[b]?=w.heap[b]?):mU w' F A i m:=by
 cases m with
 |none=>exact h
 |some m=>
  obtain⟨g,h1,h2,h3,h4,h5,h6,h7⟩:=h;refine⟨g,h1,h2,(k1 g _ h1 h3).trans h3,h4.block λb hb=>?_,h5.block λb hb=>?_,h6,h7⟩
  ·obtain⟨c,hc⟩:=jm h4 hb;exact k2 b _ hb hc
  ·obtain⟨c,hc⟩:=jm h5 hb;exact k3 b _ hb hc
theorem yc.put (h:yc w F A s) (hn:n<4) (hb:But (· =A.mb n) w w') (hm:zk w' (A.mb n) X):yc w' F A {s with kv:=mh s.kv n X}:=by
 have no:∀(b:Nat) (cur:Array ac) (ty:bA),w.heap[b]?=some (aF cur ty (0,0))->w'.heap[b]?=w.heap[b]?:=λb cur ty eZ=>hb.keep b (zi eZ).1 (ve (h.mb n hn).2 eZ);refine⟨⟨h.cl.1,(no _ _ _ h.cl.2).trans h.cl.2⟩,λi hi=>⟨(h.db i hi).1,(no _ _ _ (h.db i hi).2).trans (h.db i hi).2⟩,λi hi=>⟨(h.mb i hi).1,?_⟩,h.mbi,λi hi=>(h.mv i hi).keep (λb cur _ eZ=>no b cur _ eZ) (λb cur _ eZ=>no b cur _ eZ) (λb cur _ eZ=>no b cur _ eZ),h.mpi,h.cvi,h.yu.keep (λb cur ty eZ _=>no b cur ty eZ) (λb ⟨es,ck,eZ⟩ hw=>hb.keep b (zi eZ).1 λe=>hw.elim (λe2=>h.smb n hn (e.symm.trans e2)) λ⟨x,y,hx,hy,hz,e2⟩=>(h.yu.n x y hx hy hz).2 n hn (e.symm.trans e2)) (λ_ h=>h) rfl rfl rfl,h.smb⟩;show zk w' (A.mb i) (mh s.kv n X i);unfold mh;split
 ·rename_i e;subst e;exact hm
 ·rename_i e;exact(h.mb i hi).2.block (hb.keep _ (h.mb i hi).2.lt λe2=>e (h.mbi i n hi hn e2))
theorem yc.chg {m:Mv} {fJ:List Chg} {iA:ac} (h:yc w F A s) (hn:n<4) (oD:A.mp n=some x) (fq:s.mv n=some m) (hx:MX x n (A.pv n) (A.cv n) (A.ld n) m w) (hb:But (ChB (A.mb n) x (A.cv n)) w w') (hm:zk w' (A.mb n) X)
  (h4:MX x n (A.pv n) iA (A.ld n) {m with cs:=fJ} w') (hc:∀b,iA.ownBlock=some b->(A.cv n).ownBlock=some b\/w.heap.size<=b):
  yc w' (λb=>F b\/w.heap.size<=b) {A with cv:=qx A.cv n iA} {s with kv:=mh s.kv n X,mv:=qx s.mv n (some {m with cs:=fJ})}:=by
 have lt:∀{b:Nat} {o:Obj},w.heap[b]?=some o->b<w.heap.size:=λhb=>(zi hb).1;have EZ:∀b,(A.cv n).ownBlock=some b->∃cur,w.heap[b]?=some (aF cur 87 (0,0)):=λb hb=>jm hx.r hb;have iK:∀(b:Nat) (cur:Array ac) (ty:bA),w.heap[b]?=some (aF cur ty (0,0))->ty≠135->ty≠87->w'.heap[b]?=w.heap[b]?:=λb cur ty eZ n1 n2=>hb.keep b (lt eZ) (by
  rintro(e|e|e)
  ·exact ve (h.mb n hn).2 eZ e
  ·rw[e,hx.b]at eZ;have e2:=xoi eZ;injection e2 with _ e3;exact n1 e3.symm
  ·obtain⟨c,hc⟩:=EZ b e;rw[hc]at eZ;have e2:=xoi eZ;injection e2 with _ e3
   exact n2 e3.symm)
 have zH:∀b,(∃es ck,w.heap[b]?=some (Obj.map es ck))->b≠A.mb n->w'.heap[b]?=w.heap[b]?:=λb ⟨es,ck,eZ⟩ fA=>hb.keep b (lt eZ) (by
  rintro(e|e|e)
  ·exact fA e
  ·rw[e,hx.b]at eZ;cases eZ
  ·obtain⟨c,hc⟩:=EZ b e
   rw[hc]at eZ;cases eZ)
 refine⟨⟨.inl h.cl.1,?_⟩,λi hi=>⟨.inl (h.db i hi).1,(iK _ _ _ (h.db i hi).2 (by decide) (by decide)).trans (h.db i hi).2⟩,λi hi=>⟨.inl (h.mb i hi).1,?_⟩,h.mbi,λi hi=>?_,h.mpi,λi j g hi hj h1 h2=>?_,h.yu.keep (λb cur ty eZ ht=>iK b cur ty eZ (by rcases ht with rfl|rfl<;>decide) (by rcases ht with rfl|rfl<;>decide)) (λb eZ hw=>zH b eZ λe=>hw.elim (λe2=>h.smb n hn (e.symm.trans e2)) λ⟨x,y,hx,hy,hz,e2⟩=>(h.yu.n x y hx hy hz).2 n hn (e.symm.trans e2)) (λ_ h=>.inl h) rfl rfl rfl,h.smb⟩
 ·exact(iK _ _ _ h.cl.2 (by decide) (by decide)).trans h.cl.2
 ·show zk w' (A.mb i) (mh s.kv n X i);unfold mh;split
  ·rename_i e;subst e;exact hm
  ·rename_i e;obtain⟨es,ck,eZ,_⟩:=(h.mb i hi).2;exact(h.mb i hi).2.block (zH _ ⟨es,ck,eZ⟩ λe2=>e (h.mbi i n hi hn e2))
 ·show mU w' _ _ i (qx s.mv n _ i);by_cases e:i=n
  ·subst e;rw[show qx s.mv i (some {m with cs:=fJ}) i=some {m with cs:=fJ} by unfold qx;rw[if_pos rfl]];have h0:=h.mv i hi;rw[fq]at h0;obtain⟨g,z1,z2,z3,z4,z5,z6,z7⟩:=h0;rw[oD]at z1;cases z1;refine⟨x,oD,.inl z2,?_,?_,?_,λb hb=>.inl (z6 b hb),λb hb=>?_⟩
   ·rw[h4.b];show _=some (aF (zw i (A.pv i) (qx A.cv i iA i) (A.ld i) _) _ _);rw[show qx A.cv i iA i=iA by unfold qx;rw[if_pos rfl]]
   ·exact z4.block λb hb=>by
     obtain⟨c,hc⟩:=jm z4 hb;exact iK b c _ hc (by decide) (by decide)
   ·show wE w' (qx A.cv i iA i) fJ;rw[show qx A.cv i iA i=iA by unfold qx;rw[if_pos rfl]];exact h4.r
   ·have hb:iA.ownBlock=some b:=by
     have:qx A.cv i iA i=iA:=by unfold qx;rw[if_pos rfl]
     rw[<-this];exact hb
    exact(hc b hb).imp (z7 b) id
  ·rw[show qx s.mv n (some {m with cs:=fJ}) i=s.mv i by unfold qx;rw[if_neg e]];have hA:qx A.cv n iA i=A.cv i:=by unfold qx;rw[if_neg e]
   have h1:mU w' (λb=>F b\/w.heap.size<=b) A i (s.mv i):=((h.mv i hi).keep (λb cur o eZ=>hb.keep b (lt eZ) (by
     rintro(e2|e2|e2)
     ·exact ve (h.mb n hn).2 eZ e2
     ·exact e (h.mpi i n b hi hn o (by rw[oD,e2]))
     ·obtain⟨c,hc⟩:=EZ b e2;rw[hc]at eZ;have e3:=xoi eZ;injection e3 with _ e4;exact absurd e4 (by decide))) (λb cur o eZ=>iK b cur _ eZ (by decide) (by decide)) (λb cur o eZ=>hb.keep b (lt eZ) (by
     rintro(e2|e2|e2)
     ·exact ve (h.mb n hn).2 eZ e2
     ·rw[e2,hx.b]at eZ;have e3:=xoi eZ;injection e3 with _ e4;exact absurd e4 (by decide)
     ·exact e (h.cvi i n b hi hn o e2)))).mono λb hb=>.inl hb
   ·cases ng:s.mv i with
    |none=>rw[ng]at h1;exact⟨h1.1,by show(qx A.cv n iA i).ownBlock=none;rw[hA];exact h1.2⟩
    |some mi=>
     rw[ng]at h1;obtain⟨g,z1,z2,z3,z4,z5,z6,z7⟩:=h1;exact⟨g,z1,z2,by rw[z3];show _=some (aF (zw i (A.pv i) (qx A.cv n iA i) (A.ld i) _) _ _);rw[hA],z4,by show wE w' (qx A.cv n iA i) _;rw[hA];exact z5,z6,λb hb=>z7 b (by have hb:(qx A.cv n iA i).ownBlock=some b:=hb;rw[hA]at hb;exact hb)⟩
 ·have h1:(qx A.cv n iA i).ownBlock=some g:=h1;have h2:(qx A.cv n iA j).ownBlock=some g:=h2;have ltc:∀i,i<4->∀b,(A.cv i).ownBlock=some b->b<w.heap.size:=λi hi b hb=>by
   have h0:=h.mv i hi;cases ng:s.mv i with
   |none=>rw[ng]at h0;rw[h0.2]at hb;cases hb
   |some mi=>
    rw[ng]at h0;obtain⟨q,z1,z2,z3,z4,z5,z6,z7⟩:=h0;exact(aL z5 b hb).2
  unfold qx at h1 h2;by_cases e1:i=n
  ·by_cases e2:j=n
   ·omega
   ·rw[if_pos e1]at h1;rw[if_neg e2]at h2;rcases hc g h1 with h3|h3
    ·exact absurd (h.cvi n j g hn hj h3 h2) λe=>e2 e.symm
    ·have:=ltc j hj g h2;omega
  ·rw[if_neg e1]at h1;by_cases e2:j=n
   ·rw[if_pos e2]at h2;rcases hc g h2 with h3|h3
    ·exact absurd (h.cvi i n g hi hn h1 h3) e1
    ·have:=ltc i hi g h1;omega
   ·rw[if_neg e2]at h2;exact h.cvi i j g hi hj h1 h2
end
namespace Ph
open Go.Conc Go.ConcN Go.RowKit Go.Maps Go.Conc.Lib Go Sim
def rX (w:aa) (F:Nat->Prop) (A:PA) (v:ac) (s':St) (e:cg) (w':aa):Prop:=e=.returned v/\∃A':PA,A'.cl=A.cl/\yc w' (λb=>F b\/w.heap.size<=b) A' s'/\But F w w'
def chE (s:St) (k v:ByteArray) (g:Bool):Int:=if jD k.data.toList then(if sN (s.mv (jk k.data.toList))then(if 12<v.data.toList.length then 3 else 5)else pJ (s.kv (jk k.data.toList)) k.data.toList v.data.toList g)else 2
def chS (s:St) (k v:ByteArray) (g:Bool):St:=if jD k.data.toList&&!sN (s.mv (jk k.data.toList))then{s with kv:=mh s.kv (jk k.data.toList) (chL (s.kv (jk k.data.toList)) k.data.toList v.data.toList g),mv:=qx s.mv (jk k.data.toList) ((s.mv (jk k.data.toList)).map λm=>{m with cs:=csL (s.kv (jk k.data.toList)) m.cs k v g})}else s
section
variable {w w':aa} {F:Nat->Prop} {A:PA} {s:St}
theorem rX.idle {v:ac} (h:yc w F A s) (hb:ai w.heap.size w w'):rX w F A v s (.returned v) w':=⟨rfl,A,rfl,(h.below hb).mono λ_ h=>.inl h,But.of_below hb⟩
theorem VG (h:yc w F A s) (hl:∀i,i<4->(s.kv i).length<=12) (gX:∀i,i<4->∀m,s.mv i=some m->m.cs.length<=1073741820) (k v:ByteArray) (g:Bool) (hs:k.size<=bB):
  az prog 40 #[.pointer (some ⟨A.cl,0,none⟩),.agg #[.string k,.string v,.bool g]] w (rX w F A (.int .i64 (chE s k v g)) (chS s k v g)):=by
 cases hk:jD k.data.toList
 ·refine(qus k v g hk hs).mono λe w' ⟨h1,h2⟩=>?_;unfold chE chS;rw[hk,h1];exact .idle h h2
 ·have hn:=Ia k.data.toList;obtain⟨n,uM⟩:∃n,jk k.data.toList=n:=⟨_,rfl⟩
  unfold chE chS;rw[uM]at hn;rw[hk,uM];have hp:=h.part n hn;have hm:=h.mv n hn;cases fq:s.mv n with
  |none=>
   rw[fq]at hm;rw[hm.1]at hp;refine(qut k v g n hn hk uM hs (hl n hn) hp).mono λe w' ⟨h1,h2,h3⟩=>?_;have h4:=(h.put hn h3 h2).mono (F':=λb=>F b\/w.heap.size<=b) λ_ h=>.inl h;refine⟨h1,A,rfl,?_,h3.mono λb e=>e▸(h.mb n hn).1⟩;have e:qx s.mv n (Option.map (λm:Mv=>{m with cs:=csL (s.kv n) m.cs k v g}) none)=s.mv:=by
    funext i;unfold qx;split
    ·rename_i e;rw[e,fq];rfl
    ·rfl
   show yc w' _ A {s with kv:=_,mv:=qx s.mv n (Option.map (λm:Mv=>{m with cs:=csL (s.kv n) m.cs k v g}) none)};rw[e];exact h4
  |some m=>
   rw[fq]at hm;obtain⟨x,z1,z2,z3,z4,z5,z6,z7⟩:=hm;rw[z1]at hp;have hx:MX x n (A.pv n) (A.cv n) (A.ld n) m w:=⟨z3,z5⟩
   cases jE:m.sealed
   ·have oG:(A.cv n).ownBlock≠some A.cl:=λe=>by
     obtain⟨c,hc⟩:=jm z5 e;rw[h.cl.2]at hc;have e2:=xoi hc;injection e2 with _ e3;exact absurd e3 (by decide)
    refine(qr4 k v g n hn hk uM hs (hl n hn) hp hx jE (gX n hn m fq) oG).mono λe w' ⟨h1,h2,⟨iA,h3,h4⟩,h5⟩=>?_;rw[show sN (some m)=false from jE];refine⟨h1,{A with cv:=qx A.cv n iA},rfl,h.chg hn z1 fq hx h5 h2 h3 h4,h5.mono λb e=>?_⟩;rcases e with e|e|e
    ·exact e▸(h.mb n hn).1
    ·exact e▸z2
    ·exact z7 b e
   ·refine(qol k v g n hn hk uM hs (hl n hn) hp hx jE).mono λe w' ⟨h1,h2⟩=>?_;rw[show sN (some m)=true from jE,h1];exact .idle h h2
theorem jdn (h:yc w F A s) (hl:∀i,i<4->(s.kv i).length<=12) (gX:∀i,i<4->∀m,s.mv i=some m->m.cs.length<=1073741820) (k v:ByteArray) (hs:k.size<=bB):
  az prog 18 #[.pointer (some ⟨A.cl,0,none⟩),.string k,.string v] w (rX w F A (.int .i64 (chE s k v false)) (chS s k v false)):=by
 have hc:=VG h hl gX k v false hs;generalize chS s k v false=s' at*;generalize chE s k v false=c at*;clear h hl gX;go_enter func18,ntmps18;go_wp2_with (go_at_call 40;refine hc.mono ?_;rintro e w' ⟨rfl,h2⟩;have H2:=Hd h2;clear h2)
 go_ret;exact⟨rfl,H2.o⟩
theorem qzy (h:yc w F A s) (hl:∀i,i<4->(s.kv i).length<=12) (gX:∀i,i<4->∀m,s.mv i=some m->m.cs.length<=1073741820) (k:ByteArray) (hs:k.size<=bB):
  az prog 25 #[.pointer (some ⟨A.cl,0,none⟩),.string k] w (rX w F A (.int .i64 (chE s k ⟨#[]⟩ true)) (chS s k ⟨#[]⟩ true)):=by
 have hc:=VG h hl gX k ⟨#[]⟩ true hs;generalize chS s k ⟨#[]⟩ true=s' at*;generalize chE s k ⟨#[]⟩ true=c at*;clear h hl gX;go_enter func25,ntmps25;go_wp2_with (go_at_call 40;refine hc.mono ?_;rintro e w' ⟨rfl,h2⟩;have H2:=Hd h2;clear h2)
 go_ret;exact⟨rfl,H2.o⟩
end
def mE (w:aa) (G:Nat->Prop) (B:MA) (v:ac) (t':St) (e:cg) (w':aa):Prop:=e=.returned v/\∃B':MA,B'.ml=B.ml/\yx w' (λb=>G b\/w.heap.size<=b) B' t'/\But G w w'
section
variable {w w':aa} {G:Nat->Prop} {B:MA} {s:St} {n x:Nat} {m:Mv}
theorem mE.idle {v:ac} (h:yx w G B s) (hb:ai w.heap.size w w'):mE w G B v s (.returned v) w':=⟨rfl,B,rfl,(h.below hb).mono λ_ h=>.inl h,But.of_below hb⟩
theorem Od {W:aa} {y:ByteArray} {g:Bool} {A C:Prop} (h:A/\C/\Hid (yx w1 G B s/\CA W.heap.size k y g w1/\ai W.heap.size W w1/\W.heap.size<w1.heap.size)) (hn:n<4) (hL:(s.kv n).length<=12):
  az prog 51 #[B.lv n,.string k] w1 λe w'=>(e=.returned (.tuple #[.int .i64 (pF (s.kv n) k.data.toList),.bool (oM (s.kv n) k.data.toList)]))/\yx w' G B s/\CA W.heap.size k y g w'/\ai W.heap.size W w'/\W.heap.size<w'.heap.size:=
 (Ny (h.2.2.out.1.r n hn).1.1 (by omega) k).mono λe w' ⟨h1,h2⟩=>⟨h1,h.2.2.out.1.below h2,⟨(h2.cell h.2.2.out.2.2.2).trans h.2.2.out.2.1.c0,(h2.cell h.2.2.out.2.2.2).trans h.2.2.out.2.1.c1,(h2.cell h.2.2.out.2.2.2).trans h.2.2.out.2.1.c2⟩,h.2.2.out.2.2.1.trans (h2.mono h.2.2.out.2.2.1.size),xll h.2.2.out.2.2.2 h2.size⟩
structure Dv (W:aa) (G:Nat->Prop) (B:MA) (s:St) (k v:ByteArray) (g:Bool) (X:KV) (u:ac) (w:aa):Prop where
 m:yx w G B s
 r:zy w W.heap.size u X
 b:ai W.heap.size W w
 c:CA W.heap.size k v g w
theorem FV {W:aa} {v:ByteArray} {g:Bool} {sa:Option Addr} {cp:Nat} (h:yx w1 G B s/\CA W.heap.size k v g w1/\ai W.heap.size W w1/\W.heap.size<w1.heap.size) (hn:n<4) (hv:B.lv n=.slice sa (s.kv n).length cp) (hL:(s.kv n).length<=12) (iR:jr (s.kv n)) (hg:g=true->(jh (s.kv n) k.data.toList).isSome=true) (d:Nat):
  az prog 52 #[.slice sa (s.kv n).length cp,.agg #[.string k,.string v,.bool g]] (w1.drewN d) λe w'=>∃JZ nn Gs,e=.returned (.slice JZ nn Gs)/\Dv W G B s k v g (if g then mr (s.kv n) k.data.toList else nP (s.kv n) k.data.toList v.data.toList) (.slice JZ nn Gs) w':=by
 have hm:yx (w1.drewN d) G B s:=h.1.below (Below.drewN' (jg _ _) d);have hr:=(hm.r n hn).1;rw[hv]at hr;refine(q2o hr (by omega) iR k v g λe=>by rw[(Ce iR k.data.toList).2.1];exact hg e).mono ?_;rintro e w' ⟨v',rfl,h1,h2⟩;obtain⟨JZ,Gs,rfl⟩:=D5 h1;have hz:W.heap.size<=(w1.drewN d).heap.size:=h.2.2.1.size;exact⟨JZ,_,Gs,rfl,hm.below h2,AB h1.1 h1.2 hz rfl,(Below.drewN' h.2.2.1 d).trans (h2.mono hz),⟨(h2.cell h.2.2.2).trans h.2.1.c0,(h2.cell h.2.2.2).trans h.2.1.c1,(h2.cell h.2.2.2).trans h.2.1.c2⟩⟩
theorem Dv.stored {W:aa} {v:ByteArray} {g:Bool} (h:Dv W G B s k v g X u w) (hn:n<4):yx (w.setCell ⟨B.sb,n*3+1,none⟩ u) (λb=>G b\/W.heap.size<=b) {B with lv:=qx B.lv n u} {s with kv:=mh s.kv n X}:=
 (h.m.mono λ_ h=>.inl h).store hn h.r.to0 λb hb=>.inr (h.r.1.lt b hb).1
theorem Dv.but {W:aa} {v:ByteArray} {g:Bool} (h:Dv W G B s k v g X u w):But G W (w.setCell ⟨B.sb,n*3+1,none⟩ u):=But.setCell (But.of_below h.b) h.m.sb.1 _ _
theorem Dv.ca {W:aa} {v:ByteArray} {g:Bool} (h:Dv W G B s k v g X u w) (eH:B.sb<W.heap.size):CA W.heap.size k v g (w.setCell ⟨B.sb,n*3+1,none⟩ u):=by
 have e:(w.setCell ⟨B.sb,n*3+1,none⟩ u).heap[W.heap.size]?=w.heap[W.heap.size]?:=xho w _ _ _ (by show W.heap.size≠B.sb;omega);exact⟨(xcb e).trans h.c.c0,(xcb e).trans h.c.c1,(xcb e).trans h.c.c2⟩
theorem qql (k v:ByteArray) (g:Bool) (hn:n<4) (hk:jD k.data.toList=true) (lZ:jk k.data.toList=n) (hL:(s.kv n).length<=12) (iR:jr (s.kv n)) (hm:yx w G B s) (fq:s.mv n=none):
  az prog 24 #[.pointer (some ⟨B.ml,0,none⟩),.agg #[.string k,.string v,.bool g]] w (mE w G B (.int .i64 (pJ (s.kv n) k.data.toList v.data.toList g)) {s with kv:=mh s.kv n (chL (s.kv n) k.data.toList v.data.toList g)}):=by
 have tq:((n:Int)<4):=by omega
 have HM:=Hd hm;have HR:=Hd iR;have yA:=Hd hm.LA;have uX:Hid (mpA (B.mp n)=none):=Hd (by
  have h0:=hm.mv n hn;rw[fq]at h0
  rw[h0.1];rfl)
 have mK:=Hd fq;clear hm iR fq;go_enter func24,ntmps24;go_wp2_with (go_at_call 50;refine(FD _ hk).mono ?_;rintro e w1 ⟨rfl,hb⟩;rw[lZ];have H1:=Hd (CA.of hb);have M1:=Hd (HM.below H1.2.1);have ms:w1.cell? ⟨B.ml,1,none⟩=some (.slice (some ⟨B.sb,0,none⟩) 4 B.cap):=(M1.cells 1 _ rfl).1;obtain⟨m0,m1,m2,m3⟩:=M1.sbc hn;obtain⟨c0,c1,c2⟩:=H1.1;clear hb m0)
 go_region_held3 (λw'=>w'.cell? ⟨B.sb,n*3+1,none⟩=some (B.lv n)/\w'.cell? ⟨w.heap.size,0,none⟩=some (.string k)/\Hid (yx w' G B s/\CA w.heap.size k v g w'/\ai w.heap.size w w'/\w.heap.size<w'.heap.size))
  (first|exact⟨m1,c0,Hd ⟨M1.below (aI (jg _ _)),⟨c0,c1,c2⟩,H1.2.1.drew,H1.2.2⟩⟩|exact⟨(H2.1.sbc hn).2.1,H2.2.1.c0,H2⟩)
  (first|(go_at_call 51;refine(Od (by assumption) hn hL).mono ?_;rintro e w2 ⟨rfl,h2⟩;have H2:=Hd h2;clear h2))
 have HA:=Hd (Ce HR.o k.data.toList);rw[HA.2.1];obtain⟨has,gQ⟩:∃b,(jh (s.kv n) k.data.toList).isSome=b:=⟨_,rfl⟩
 rw[gQ];have HF:=Hd gQ;clear gQ;obtain⟨sa,cp,hv⟩:=D5 (H2.1.r n hn).1;have HV:=Hd hv;obtain⟨e0,e1,e2⟩:=H2.2.1;obtain⟨p0,p1,p2,p3⟩:=H2.1.sbc hn;rw[hv]at p1;rw[uX.o]at p2;clear hv p0;by_cases iX:12<v.size
 ·have HE:=Hd (Kk (L:=s.kv n) (k:=k.data.toList) (g:=g) (v:=v.data.toList) (by simpa using iX));have g1:decide ((12:Int)<v.size)=true:=by simp;omega
  go_wp2;go_ret;rw[HE.1,HE.2,show mh s.kv n (s.kv n)=s.kv from AZ s.kv n];exact .idle HM.o H2.2.2.1
 have HG:=Hd (Kj (L:=s.kv n) (k:=k.data.toList) (g:=g) (v:=v.data.toList) (by simpa using iX));rw[HF.o]at HG;have g1:decide ((12:Int)<v.size)=false:=by simp;omega
 cases g
 ·cases has
  ·by_cases jT:(s.kv n).length=12
   ·have HE:=Hd (HG.1 rfl rfl jT);have g2:decide ((12:Int)<=((s.kv n).length:Int))=true:=by simp;omega
    go_wp2;go_ret;rw[HE.1,HE.2,show mh s.kv n (s.kv n)=s.kv from AZ s.kv n];exact .idle HM.o H2.2.2.1
   ·have HE:=Hd (HG.2.1 rfl (.inr jT));have g2:decide ((12:Int)<=((s.kv n).length:Int))=false:=by simp;omega
    go_wp2;go_region_with (first|(go_at_call 52;refine(FV (d:=1) H2.o hn HV.o hL HR.o (λh=>by cases h)).mono ?_;rintro e w3 ⟨mQ,n3,ni,rfl,h3⟩;have H3:=Hd h3;obtain⟨q0,q1,q2,q3⟩:=H3.m.sbc hn;rw[uX.o]at q2;clear q0 h3))
    all_goals go_wp2
    all_goals go_ret
    all_goals exact⟨by rw[HE.1];rfl,⟨B.ml,B.sb,qx B.lv n (.slice mQ n3 ni),B.mp,B.pv,B.cv,B.sg,B.cap,B.sl⟩,rfl,by rw[HE.2];exact H3.stored hn,H3.but⟩
  ·have HE:=Hd (HG.2.1 rfl (.inl rfl));go_wp2;go_region_with (first|(go_at_call 52;refine(FV (d:=1) H2.o hn HV.o hL HR.o (λh=>by cases h)).mono ?_;rintro e w3 ⟨mQ,n3,ni,rfl,h3⟩;have H3:=Hd h3;obtain⟨q0,q1,q2,q3⟩:=H3.m.sbc hn;rw[uX.o]at q2;clear q0 h3))
   all_goals go_wp2
   all_goals go_ret
   all_goals exact⟨by rw[HE.1];rfl,⟨B.ml,B.sb,qx B.lv n (.slice mQ n3 ni),B.mp,B.pv,B.cv,B.sg,B.cap,B.sl⟩,rfl,by rw[HE.2];exact H3.stored hn,H3.but⟩
 ·cases has
  ·have HE:=Hd (HG.2.2.1 rfl rfl);go_wp2;go_ret;rw[HE.1,HE.2,show mh s.kv n (s.kv n)=s.kv from AZ s.kv n];exact .idle HM.o H2.2.2.1
  ·have HE:=Hd (HG.2.2.2 rfl rfl);go_wp2;go_region_with (first|(go_at_call 52;refine(FV (d:=1) H2.o hn HV.o hL HR.o (λ_=>HF.o)).mono ?_;rintro e w3 ⟨mQ,n3,ni,rfl,h3⟩;have H3:=Hd h3;obtain⟨q0,q1,q2,q3⟩:=H3.m.sbc hn;rw[uX.o]at q2;clear q0 h3))
   all_goals go_wp2
   all_goals go_ret
   all_goals exact⟨by rw[HE.1];rfl,⟨B.ml,B.sb,qx B.lv n (.slice mQ n3 ni),B.mp,B.pv,B.cv,B.sg,B.cap,B.sl⟩,rfl,by rw[HE.2];exact H3.stored hn,H3.but⟩
theorem qmy (k v:ByteArray) (g:Bool) (hn:n<4) (hk:jD k.data.toList=true) (lZ:jk k.data.toList=n) (hL:(s.kv n).length<=12) (iR:jr (s.kv n)) (hm:yx w G B s) (fq:s.mv n=some m) (jE:m.sealed=true):
  az prog 24 #[.pointer (some ⟨B.ml,0,none⟩),.agg #[.string k,.string v,.bool g]] w (mE w G B (.int .i64 (if 12<v.data.toList.length then 3 else 5)) s):=by
 have tq:((n:Int)<4):=by omega
 have HM:=Hd hm;have HR:=Hd iR;have yA:=Hd hm.LA;obtain⟨x,hx,IL⟩:=hm.rx hn fq;have uX:Hid (mpA (B.mp n)=some ⟨x,0,none⟩):=Hd (by rw[hx];rfl);have mK:=Hd fq;have HX:=Hd IL;have EG:=Hd hx;have Rq:=Hd jE;clear hm iR fq jE IL hx;obtain⟨cd,Eu⟩:∃cd:Int,(if 12<v.data.toList.length then(3:Int)else 5)=cd:=⟨_,rfl⟩
 rw[Eu];have JD:=Hd Eu;clear Eu;go_enter func24,ntmps24;go_wp2_with (go_at_call 50;refine(FD _ hk).mono ?_;rintro e w1 ⟨rfl,hb⟩;rw[lZ];have H1:=Hd (CA.of hb);have M1:=Hd (HM.below H1.2.1);have ms:w1.cell? ⟨B.ml,1,none⟩=some (.slice (some ⟨B.sb,0,none⟩) 4 B.cap):=(M1.cells 1 _ rfl).1;obtain⟨m0,m1,m2,m3⟩:=M1.sbc hn;obtain⟨c0,c1,c2⟩:=H1.1;clear hb m0)
 go_region_held3 (λw'=>w'.cell? ⟨B.sb,n*3+1,none⟩=some (B.lv n)/\w'.cell? ⟨w.heap.size,0,none⟩=some (.string k)/\Hid (yx w' G B s/\CA w.heap.size k v g w'/\ai w.heap.size w w'/\w.heap.size<w'.heap.size))
  (first|exact⟨m1,c0,Hd ⟨M1.below (aI (jg _ _)),⟨c0,c1,c2⟩,H1.2.1.drew,H1.2.2⟩⟩|exact⟨(H2.1.sbc hn).2.1,H2.2.1.c0,H2⟩)
  (first|(go_at_call 51;refine(Od (by assumption) hn hL).mono ?_;rintro e w2 ⟨rfl,h2⟩;have H2:=Hd h2;clear h2))
 have HA:=Hd (Ce HR.o k.data.toList);rw[HA.2.1];obtain⟨has,gQ⟩:∃b,(jh (s.kv n) k.data.toList).isSome=b:=⟨_,rfl⟩
 rw[gQ];have HF:=Hd gQ;clear gQ;obtain⟨sa,cp,hv⟩:=D5 (H2.1.r n hn).1;have HV:=Hd hv;obtain⟨e0,e1,e2⟩:=H2.2.1;obtain⟨p0,p1,p2,p3⟩:=H2.1.sbc hn;rw[hv]at p1;rw[uX.o]at p2;clear hv p0;have q2:=(HX.below (H2.2.2.1)).cells.2.1;rw[Rq.o]at q2;by_cases iX:12<v.size
 ·have HE:Hid (cd=3):=Hd (JD.symm.trans (if_pos (by simpa using iX)));have g1:decide ((12:Int)<v.size)=true:=by simp;omega
  go_wp2;go_ret;rw[HE.o];exact .idle HM.o H2.2.2.1
 ·have HE:Hid (cd=5):=Hd (JD.symm.trans (if_neg (by simpa using iX)));have g1:decide ((12:Int)<v.size)=false:=by simp;omega
  go_wp2;go_ret;rw[HE.o];exact .idle HM.o H2.2.2.1
theorem qqk (k v:ByteArray) (g:Bool) (hn:n<4) (hk:jD k.data.toList=true) (lZ:jk k.data.toList=n) (hL:(s.kv n).length<=12) (iR:jr (s.kv n)) (hm:yx w G B s) (fq:s.mv n=some m) (jE:m.sealed=false) (gX:m.cs.length<=1073741820):
  az prog 24 #[.pointer (some ⟨B.ml,0,none⟩),.agg #[.string k,.string v,.bool g]] w (mE w G B (.int .i64 (pJ (s.kv n) k.data.toList v.data.toList g)) {s with kv:=mh s.kv n (chL (s.kv n) k.data.toList v.data.toList g),mv:=qx s.mv n (some {m with cs:=csL (s.kv n) m.cs k v g})}):=by
 have tq:((n:Int)<4):=by omega
 have HM:=Hd hm;have HR:=Hd iR;have yA:=Hd hm.LA;obtain⟨x,hx,IL⟩:=hm.rx hn fq;have uX:Hid (mpA (B.mp n)=some ⟨x,0,none⟩):=Hd (by rw[hx];rfl);have mK:=Hd fq;have HX:=Hd IL;have EG:=Hd hx;have Rq:=Hd jE;clear hm iR fq jE IL hx;have RH:=Hd gX;clear gX;go_enter func24,ntmps24;go_wp2_with (go_at_call 50;refine(FD _ hk).mono ?_;rintro e w1 ⟨rfl,hb⟩;rw[lZ];have H1:=Hd (CA.of hb);have M1:=Hd (HM.below H1.2.1);have ms:w1.cell? ⟨B.ml,1,none⟩=some (.slice (some ⟨B.sb,0,none⟩) 4 B.cap):=(M1.cells 1 _ rfl).1;obtain⟨m0,m1,m2,m3⟩:=M1.sbc hn;obtain⟨c0,c1,c2⟩:=H1.1;clear hb m0)
 go_region_held3 (λw'=>w'.cell? ⟨B.sb,n*3+1,none⟩=some (B.lv n)/\w'.cell? ⟨w.heap.size,0,none⟩=some (.string k)/\Hid (yx w' G B s/\CA w.heap.size k v g w'/\ai w.heap.size w w'/\w.heap.size<w'.heap.size))
  (first|exact⟨m1,c0,Hd ⟨M1.below (aI (jg _ _)),⟨c0,c1,c2⟩,H1.2.1.drew,H1.2.2⟩⟩|exact⟨(H2.1.sbc hn).2.1,H2.2.1.c0,H2⟩)
  (first|(go_at_call 51;refine(Od (by assumption) hn hL).mono ?_;rintro e w2 ⟨rfl,h2⟩;have H2:=Hd h2;clear h2))
 have HA:=Hd (Ce HR.o k.data.toList);rw[HA.2.1];obtain⟨has,gQ⟩:∃b,(jh (s.kv n) k.data.toList).isSome=b:=⟨_,rfl⟩
 rw[gQ];have HF:=Hd gQ;clear gQ;obtain⟨sa,cp,hv⟩:=D5 (H2.1.r n hn).1;have HV:=Hd hv;obtain⟨e0,e1,e2⟩:=H2.2.1;obtain⟨p0,p1,p2,p3⟩:=H2.1.sbc hn;rw[hv]at p1;rw[uX.o]at p2;clear hv p0;have q2:=(HX.below (H2.2.2.1)).cells.2.1;rw[Rq.o]at q2;by_cases iX:12<v.size
 ·have HE:=Hd (Kk (L:=s.kv n) (k:=k.data.toList) (g:=g) (v:=v.data.toList) (by simpa using iX));have g1:decide ((12:Int)<v.size)=true:=by simp;omega
  go_wp2;go_ret;unfold csL;rw[HE.1,HE.2,if_neg (by decide),show mh s.kv n (s.kv n)=s.kv from AZ s.kv n,show qx s.mv n (some {m with cs:=m.cs})=s.mv by rw[show({m with cs:=m.cs}:Mv)=m from rfl,<-mK.o];exact AZ s.mv n];exact .idle HM.o H2.2.2.1
 have HG:=Hd (Kj (L:=s.kv n) (k:=k.data.toList) (g:=g) (v:=v.data.toList) (by simpa using iX));rw[HF.o]at HG;have g1:decide ((12:Int)<v.size)=false:=by simp;omega
 cases g
 ·cases has
  ·by_cases jT:(s.kv n).length=12
   ·have HE:=Hd (HG.1 rfl rfl jT);have g2:decide ((12:Int)<=((s.kv n).length:Int))=true:=by simp;omega
    go_wp2;go_ret;unfold csL;rw[HE.1,HE.2,if_neg (by decide),show mh s.kv n (s.kv n)=s.kv from AZ s.kv n,show qx s.mv n (some {m with cs:=m.cs})=s.mv by rw[show({m with cs:=m.cs}:Mv)=m from rfl,<-mK.o];exact AZ s.mv n];exact .idle HM.o H2.2.2.1
   ·have HE:=Hd (HG.2.1 rfl (.inr jT));have g2:decide ((12:Int)<=((s.kv n).length:Int))=false:=by simp;omega
    go_wp2;go_region_with (first|(go_at_call 52;refine(FV (d:=1) H2.o hn HV.o hL HR.o (λh=>by cases h)).mono ?_;rintro e w3 ⟨mQ,n3,ni,rfl,h3⟩;have H3:=Hd h3;obtain⟨q0,q1,q2,q3⟩:=H3.m.sbc hn;rw[uX.o]at q2;clear q0 h3))
    all_goals go_wp2
    all_goals
     change co _ (ak 16 dg1 true) _ _ _;have M4:=Hd (H3.stored hn);have Jt:=Hd (M4.cvs hn (m:=m) mK.o);obtain⟨x4,sO,Cw⟩:=M4.rx hn (m:=m) mK.o;have Cs:x4=x:=xoi (sO.symm.trans EG.o);subst Cs;obtain⟨_,_,z2,_⟩:=M4.sbc hn;have z2:=z2.trans (congrArg (λo=>some (Value.pointer o)) uX.o);have z3:=H3.ca (n:=n) yA.o;have CU:=Hd (H3.but (n:=n));refine Nt (sb:=B.sb) (cb:=w.heap.size) (n:=n) (x:=x4) (pv:=B.pv n) (cv:=B.cv n) (m:=m) (k:=k) (v:=v) (g:=false) rfl rfl rfl Cw z2 z3.c0 z3.c1 z3.c2 Jt.1 RH.o λy w4 iA rq oU jG=>?_;rw[J4];have H4:=Hd (M4.app hn sO mK.o jG rq oU);have kD:=Hd (CU.trans (jG.mono λq hq=>by
      rcases hq with rfl|hq
      ·exact HM.mpG hn mK.o EG.o
      ·exact((HM.cvs hn mK.o).2 q hq).1))
     clear rq oU jG Cw sO z2 z3;go_wp2;go_ret;unfold csL;rw[HE.1,HE.2,if_pos rfl];exact⟨rfl,⟨B.ml,B.sb,qx B.lv n (.slice mQ n3 ni),B.mp,B.pv,qx B.cv n iA,B.sg,B.cap,B.sl⟩,rfl,H4.mono λb hb=>hb.elim id λh=>.inr (xlt CU.size h),kD.o⟩
  ·have HE:=Hd (HG.2.1 rfl (.inl rfl));go_wp2;go_region_with (first|(go_at_call 52;refine(FV (d:=1) H2.o hn HV.o hL HR.o (λh=>by cases h)).mono ?_;rintro e w3 ⟨mQ,n3,ni,rfl,h3⟩;have H3:=Hd h3;obtain⟨q0,q1,q2,q3⟩:=H3.m.sbc hn;rw[uX.o]at q2;clear q0 h3))
   all_goals go_wp2
   all_goals
    change co _ (ak 16 dg1 true) _ _ _;have M4:=Hd (H3.stored hn);have Jt:=Hd (M4.cvs hn (m:=m) mK.o);obtain⟨x4,sO,Cw⟩:=M4.rx hn (m:=m) mK.o;have Cs:x4=x:=xoi (sO.symm.trans EG.o);subst Cs;obtain⟨_,_,z2,_⟩:=M4.sbc hn;have z2:=z2.trans (congrArg (λo=>some (Value.pointer o)) uX.o);have z3:=H3.ca (n:=n) yA.o;have CU:=Hd (H3.but (n:=n));refine Nt (sb:=B.sb) (cb:=w.heap.size) (n:=n) (x:=x4) (pv:=B.pv n) (cv:=B.cv n) (m:=m) (k:=k) (v:=v) (g:=false) rfl rfl rfl Cw z2 z3.c0 z3.c1 z3.c2 Jt.1 RH.o λy w4 iA rq oU jG=>?_;rw[J4];have H4:=Hd (M4.app hn sO mK.o jG rq oU);have kD:=Hd (CU.trans (jG.mono λq hq=>by
     rcases hq with rfl|hq
     ·exact HM.mpG hn mK.o EG.o
     ·exact((HM.cvs hn mK.o).2 q hq).1))
    clear rq oU jG Cw sO z2 z3;go_wp2;go_ret;unfold csL;rw[HE.1,HE.2,if_pos rfl];exact⟨rfl,⟨B.ml,B.sb,qx B.lv n (.slice mQ n3 ni),B.mp,B.pv,qx B.cv n iA,B.sg,B.cap,B.sl⟩,rfl,H4.mono λb hb=>hb.elim id λh=>.inr (xlt CU.size h),kD.o⟩
 ·cases has
  ·have HE:=Hd (HG.2.2.1 rfl rfl);go_wp2;go_ret;unfold csL;rw[HE.1,HE.2,if_neg (by decide),show mh s.kv n (s.kv n)=s.kv from AZ s.kv n,show qx s.mv n (some {m with cs:=m.cs})=s.mv by rw[show({m with cs:=m.cs}:Mv)=m from rfl,<-mK.o];exact AZ s.mv n];exact .idle HM.o H2.2.2.1
  ·have HE:=Hd (HG.2.2.2 rfl rfl);go_wp2;go_region_with (first|(go_at_call 52;refine(FV (d:=1) H2.o hn HV.o hL HR.o (λ_=>HF.o)).mono ?_;rintro e w3 ⟨mQ,n3,ni,rfl,h3⟩;have H3:=Hd h3;obtain⟨q0,q1,q2,q3⟩:=H3.m.sbc hn;rw[uX.o]at q2;clear q0 h3))
   all_goals go_wp2
   all_goals
    change co _ (ak 16 dg1 true) _ _ _;have M4:=Hd (H3.stored hn);have Jt:=Hd (M4.cvs hn (m:=m) mK.o);obtain⟨x4,sO,Cw⟩:=M4.rx hn (m:=m) mK.o;have Cs:x4=x:=xoi (sO.symm.trans EG.o);subst Cs;obtain⟨_,_,z2,_⟩:=M4.sbc hn;have z2:=z2.trans (congrArg (λo=>some (Value.pointer o)) uX.o);have z3:=H3.ca (n:=n) yA.o;have CU:=Hd (H3.but (n:=n));refine Nt (sb:=B.sb) (cb:=w.heap.size) (n:=n) (x:=x4) (pv:=B.pv n) (cv:=B.cv n) (m:=m) (k:=k) (v:=v) (g:=true) rfl rfl rfl Cw z2 z3.c0 z3.c1 z3.c2 Jt.1 RH.o λy w4 iA rq oU jG=>?_;rw[J4];have H4:=Hd (M4.app hn sO mK.o jG rq oU);have kD:=Hd (CU.trans (jG.mono λq hq=>by
     rcases hq with rfl|hq
     ·exact HM.mpG hn mK.o EG.o
     ·exact((HM.cvs hn mK.o).2 q hq).1))
    clear rq oU jG Cw sO z2 z3;go_wp2;go_ret;unfold csL;rw[HE.1,HE.2,if_pos rfl];exact⟨rfl,⟨B.ml,B.sb,qx B.lv n (.slice mQ n3 ni),B.mp,B.pv,qx B.cv n iA,B.sg,B.cap,B.sl⟩,rfl,H4.mono λb hb=>hb.elim id λh=>.inr (xlt CU.size h),kD.o⟩
theorem qy9 (h:yx w G B s) (hl:∀i,i<4->(s.kv i).length<=12) (iR:∀i,i<4->jr (s.kv i)) (gX:∀i,i<4->∀m,s.mv i=some m->m.cs.length<=1073741820) (k v:ByteArray) (g:Bool):
  az prog 24 #[.pointer (some ⟨B.ml,0,none⟩),.agg #[.string k,.string v,.bool g]] w (mE w G B (.int .i64 (chE s k v g)) (chS s k v g)):=by
 cases hk:jD k.data.toList
 ·refine(qv9 (ml:=B.ml) k v g hk).mono λe w' ⟨h1,h2⟩=>?_;unfold chE chS;rw[hk,h1];exact .idle h h2
 ·have hn:=Ia k.data.toList;obtain⟨n,uM⟩:∃n,jk k.data.toList=n:=⟨_,rfl⟩
  unfold chE chS;rw[uM]at hn;rw[hk,uM];cases fq:s.mv n with
  |none=>
   have e:qx s.mv n (Option.map (λm:Mv=>{m with cs:=csL (s.kv n) m.cs k v g}) none)=s.mv:=by
    funext i;unfold qx;split
    ·rename_i e;rw[e,fq];rfl
    ·rfl
   show az _ _ _ _ (mE w G B (.int .i64 (pJ (s.kv n) k.data.toList v.data.toList g)) {s with kv:=_,mv:=qx s.mv n (Option.map (λm:Mv=>{m with cs:=csL (s.kv n) m.cs k v g}) none)});rw[e];exact qql k v g hn hk uM (hl n hn) (iR n hn) h fq
  |some m=>
   cases jE:m.sealed
   ·rw[show sN (some m)=false from jE];exact qqk k v g hn hk uM (hl n hn) (iR n hn) h fq jE (gX n hn m fq)
   ·rw[show sN (some m)=true from jE];exact qmy k v g hn hk uM (hl n hn) (iR n hn) h fq jE
end
section
variable {e:bp->ac} {o:Oper} {p q r s:bp} {v:ac} {g f k:Nat} {w:aa} {i j l:Int} {sa:Option Addr} {n cp:Nat}
theorem q5n (h:o.op=.fieldAddr 83 p 3) (hp:e p=.pointer (some ⟨g,0,none⟩)):(ae e o).run prog w=.ok (.value (.pointer (some ⟨g,14,none⟩))) w:=by
 have hu:=underlying83;unfold ae;simp[go_sem,h,hp,hu]
theorem qwi (h:o.op=.build 135 #[(0,p),(1,q),(2,r),(3,s)]) (hp:e p=.int .i64 i) (hq:e q=.int .i64 j) (hr:e r=.int .i64 l) (hs:e s=.slice sa n cp):(ae e o).run prog w=.ok (.value (.agg #[.int .i64 i,.int .i64 j,.int .i64 l,.slice sa n cp,.slice none 0 0,.int .u8 0,.int .i64 0,.int .i64 0,.int .i64 0,.string ⟨#[]⟩,.string ⟨#[]⟩,.int .i64 0,.bool false])) w:=by
 unfold ae;simp[go_sem,h,hp,hq,hr,hs]
theorem q5m {i j l:Int} {sa:Option Addr} {n cp:Nat} (h:o.op=.box 135 p) (hp:e p=.agg #[.int .i64 i,.int .i64 j,.int .i64 l,.slice sa n cp,.slice none 0 0,.int .u8 0,.int .i64 0,.int .i64 0,.int .i64 0,.string ⟨#[]⟩,.string ⟨#[]⟩,.int .i64 0,.bool false]):(ae e o).run prog w=.ok (.value (.pointer (some ⟨w.heap.size,0,none⟩))) (w.alloc (.cells #[.int .i64 i,.int .i64 j,.int .i64 l,.slice sa n cp,.slice none 0 0,.int .u8 0,.int .i64 0,.int .i64 0,.int .i64 0,.string ⟨#[]⟩,.string ⟨#[]⟩,.int .i64 0,.bool false] 135)):=by
 have hA:=Tryz.isAgg135;unfold ae;simp[go_sem,h,hp,hA]
theorem q0a {o:Oper} {p q r:bp} {f:FuncId} {ty:Array bA} {v x:ac} {fn:Func} {w:aa} (h:o.op=.call {callee:=.value (.func f),args:=#[p,q,r],argTypes:=ty}) (hp:a.eval p=u) (hq:a.eval q=v) (hr:a.eval r=x) (hf:prog.funcs[f]?=some fn) (yP:(fn.name== "runtime.NumGoroutine")=false) (hb:fn.body.isNone=false):(ae a.eval o).run prog w=.ok (.enter f #[u,v,x]) w:=by
 rw[run_call_body h hf yP hb];simp[hp,hq,hr]
theorem q8j (L:KV):L.filter (inB [] [])=L:=by
 rw[List.filter_eq_self];intro p _;have e:bytesBefore p.1 []=false:=by cases p.1<;>rfl
 simp[inB,e]
end
noncomputable def bg1:Array Oper:=match Tryz.f58.body with
 |some (.seq _ (.seq a _))=>rg a
 |_=>#[]
theorem jip (y:Nat->ac):lay 46 y=#[y 0,y 1,y 2,y 3,y 4,y 5,y 6,y 7,y 8,y 9,y 10,y 11,y 12,y 13,y 14,y 15,y 16,y 17,y 18,y 19,y 20,y 21,y 22,y 23,y 24,y 25,y 26,y 27,y 28,y 29,y 30,y 31,y 32,y 33,y 34,y 35,y 36,y 37,y 38,y 39,y 40,y 41,y 42,y 43,y 44,y 45]:=rfl
noncomputable def bgo (k:Nat):Oper:=bg1.getD k ⟨none,.alloc 0,0, "",#[],none⟩
theorem q7k:Dr bg1 46=true:=by kernel_rfl
section
variable {cl n db mb id ow to:Nat} {L:KV} {w0:aa}
def Kbg (cl n db id ow to:Nat) (L:KV) (w0:aa):Nat->ac->aa->Prop
 |0,u,_=>u=.pointer (some ⟨cl,1+n*3,none⟩)
 |1,u,_=>u=.pointer (some ⟨cl,0,none⟩)
 |2,u,_=>u=.pointer (some ⟨cl,0,none⟩)
 |3,u,_=>u=.pointer (some ⟨cl,14,none⟩)
 |4,u,_=>u=.int .i64 id
 |5,u,_=>u=.pointer (some ⟨cl,1+n*3,none⟩)
 |6,u,_=>u=.pointer (some ⟨cl,1+n*3,none⟩)
 |7,u,_=>u=.pointer (some ⟨cl,1+n*3,none⟩)
 |8,u,_=>u=.int .i64 ow
 |9,u,_=>u=.int .i64 to
 |10,u,_=>u=.pointer (some ⟨cl,1+n*3,none⟩)
 |11,u,_=>u=.pointer (some ⟨cl,1+n*3,none⟩)
 |12,u,_=>u=.pointer (some ⟨cl,1+n*3+1,none⟩)
 |13,u,_=>u=.pointer (some ⟨db,0,none⟩)
 |14,u,w=>∃s c,u=.slice s L.length c/\w.ownsRow w0.heap.size 74 2 u L.length (flat L)
 |15,u,w=>∃s c,u=.agg #[.int .i64 id,.int .i64 ow,.int .i64 to,(.slice s L.length c),.slice none 0 0,.int .u8 0,.int .i64 0,.int .i64 0,.int .i64 0,.string ⟨#[]⟩,.string ⟨#[]⟩,.int .i64 0,.bool false]/\w.ownsRow w0.heap.size 74 2 (.slice s L.length c) L.length (flat L)
 |16,u,w=>∃s c g,u=.pointer (some ⟨g,0,none⟩)/\w0.heap.size<=g/\w.heap[g]?=some (.cells #[.int .i64 id,.int .i64 ow,.int .i64 to,(.slice s L.length c),.slice none 0 0,.int .u8 0,.int .i64 0,.int .i64 0,.int .i64 0,.string ⟨#[]⟩,.string ⟨#[]⟩,.int .i64 0,.bool false] 135 (0,0))/\w.ownsRow w0.heap.size 74 2 (.slice s L.length c) L.length (flat L)
 |17,u,_=>u=.pointer (some ⟨cl,1+n*3,none⟩)
 |18,u,_=>u=.pointer (some ⟨cl,1+n*3+2,none⟩)
 |_,_,_=>True
theorem Wn (j:Nat) (u:ac) (w w':aa) (hb:ai w.heap.size w w') (h:Kbg cl n db id ow to L w0 j u w):Kbg cl n db id ow to L w0 j u w':=by
 match j,h with
 |0,h|1,h|2,h|3,h|4,h|5,h|6,h|7,h|8,h|9,h|10,h|11,h|12,h|13,h=>exact h
 |14,⟨s,c,h1,h2⟩=>exact⟨s,c,h1,qi h2 λq hq=>hb.block q (h2.lt q hq).2⟩
 |15,⟨s,c,h1,h2⟩=>exact⟨s,c,h1,qi h2 λq hq=>hb.block q (h2.lt q hq).2⟩
 |16,⟨s,c,g,h1,h2,h3,h4⟩=>exact⟨s,c,g,h1,h2,(hb.block g (zi h3).1).trans h3,qi h4 λq hq=>hb.block q (h4.lt q hq).2⟩
 |17,h|18,h=>exact h
 |i+19,_=>trivial
theorem jgq (fC:a.tmps.size=46) (Es:a.defers=[]) (h0:a.tmps.getD 0 aR=.pointer (some ⟨cl,0,none⟩)) (h1:a.tmps.getD 1 aR=.pointer (some ⟨cl,1+n*3,none⟩)) (h3:a.tmps.getD 3 aR=.int .i64 to)
  (cI:w.cell? ⟨cl,14,none⟩=some (.int .i64 id)) (cO:w.cell? ⟨cl,1+n*3,none⟩=some (.int .i64 ow)) (cD:w.cell? ⟨cl,1+n*3+1,none⟩=some (.pointer (some ⟨db,0,none⟩))) (cV:∃v,w.cell? ⟨cl,1+n*3+2,none⟩=some v) (fV:w.frozen? ⟨cl,1+n*3+2,none⟩=false) (cm:w.cell? ⟨db,0,none⟩=some (.map (some mb))) (hm:zk w mb L) (iR:jr L) (hL:L.length<=12) (jV:∀p∈L,p.1.length<=bB)
  (hQ:∀y w1 g s c,(∀s,(∀(j:Nat) o,bg1[j]?=some o->o.dst≠some s)->y s=a.tmps.getD s aR)->ai w.heap.size w w1->w.heap.size<=g->w1.heap[g]?=some (.cells #[.int .i64 id,.int .i64 ow,.int .i64 to,(.slice s L.length c),.slice none 0 0,.int .u8 0,.int .i64 0,.int .i64 0,.int .i64 0,.string ⟨#[]⟩,.string ⟨#[]⟩,.int .i64 0,.bool false] 135 (0,0))->w1.ownsRow w.heap.size 74 2 (.slice s L.length c) L.length (flat L)->Q .normal ⟨lay 46 y,[]⟩ (w1.setCell ⟨cl,1+n*3+2,none⟩ (.pointer (some ⟨g,0,none⟩)))):(ak 1 bg1 true).wp prog Q a w:=by
 have Cm:=xbl w _ cI;have ltd:=xbl w _ cm;refine Xl (n:=46) (x0:=λs=>a.tmps.getD s aR) (turn:=20) (KN:=Kbg cl n db id ow to L w) (J:=λ_ w1=>ai w.heap.size w w1) (by kernel_rfl) q7k ⟨_,?_,λ_=>rfl⟩ (aI (jg _ _)) ?_ ?_
 ·obtain⟨t,df⟩:=a;obtain rfl:df=[]:=Es;rw[DC fC]
 ·intro j o d y w1 b Je ho hd hy jo hJ;have old:∀q,q<w.heap.size->w1.heap[q]?=w.heap[q]?:=λq h1=>hJ.block q h1;have y0:y 0=.pointer (some ⟨cl,0,none⟩):=(hy 0 (xD (by kernel_rfl))).trans h0;have y1:y 1=.pointer (some ⟨cl,1+n*3,none⟩):=(hy 1 (xD (by kernel_rfl))).trans h1;have y3:y 3=.int .i64 to:=(hy 3 (xD (by kernel_rfl))).trans h3;match j,ho with
  |0,ho=>
   cases ho;cases hd;exact qo (run_move rfl (qy y1)) ⟨_,qg rfl,rfl,hJ,λ_ _ _ h=>h⟩
  |1,ho=>
   cases ho;cases hd;exact qo (run_move rfl (qy y0)) ⟨_,qg rfl,rfl,hJ,λ_ _ _ h=>h⟩
  |2,ho=>
   cases ho;cases hd;have k1:y 16=.pointer (some ⟨cl,0,none⟩):=jo 1 _ 16 rfl rfl (qj rfl);exact qo (Ch rfl (qy k1)) ⟨_,qg rfl,rfl,hJ,λ_ _ _ h=>h⟩
  |3,ho=>
   cases ho;cases hd;have k2:y 17=.pointer (some ⟨cl,0,none⟩):=jo 2 _ 17 rfl rfl (qj rfl);exact qo (q5n rfl (qy k2)) ⟨_,qg rfl,rfl,hJ,λ_ _ _ h=>h⟩
  |4,ho=>
   cases ho;cases hd;have k3:y 18=.pointer (some ⟨cl,14,none⟩):=jo 3 _ 18 rfl rfl (qj rfl);exact qo (zo (ty:=3) rfl (qy k3) (by simp[isAgg]) ((xcb (old cl Cm)).trans cI)) ⟨_,qg rfl,rfl,hJ,λ_ _ _ h=>h⟩
  |5,ho=>
   cases ho;cases hd;exact qo (run_move rfl (qy y1)) ⟨_,qg rfl,rfl,hJ,λ_ _ _ h=>h⟩
  |6,ho=>
   cases ho;cases hd;have k5:y 20=.pointer (some ⟨cl,1+n*3,none⟩):=jo 5 _ 20 rfl rfl (qj rfl);exact qo (Ch rfl (qy k5)) ⟨_,qg rfl,rfl,hJ,λ_ _ _ h=>h⟩
  |7,ho=>
   cases ho;cases hd;have k6:y 21=.pointer (some ⟨cl,1+n*3,none⟩):=jo 6 _ 21 rfl rfl (qj rfl);exact qo (OV 0 (by decide) rfl (qy k6)) ⟨_,qg rfl,rfl,hJ,λ_ _ _ h=>h⟩
  |8,ho=>
   cases ho;cases hd;have k7:y 22=.pointer (some ⟨cl,1+n*3,none⟩):=jo 7 _ 22 rfl rfl (qj rfl);exact qo (zo (ty:=3) rfl (qy k7) (by simp[isAgg]) ((xcb (old cl Cm)).trans cO)) ⟨_,qg rfl,rfl,hJ,λ_ _ _ h=>h⟩
  |9,ho=>
   cases ho;cases hd;exact qo (run_move rfl (qy y3)) ⟨_,qg rfl,rfl,hJ,λ_ _ _ h=>h⟩
  |10,ho=>
   cases ho;cases hd;exact qo (run_move rfl (qy y1)) ⟨_,qg rfl,rfl,hJ,λ_ _ _ h=>h⟩
  |11,ho=>
   cases ho;cases hd;have nE:y 25=.pointer (some ⟨cl,1+n*3,none⟩):=jo 10 _ 25 rfl rfl (qj rfl);exact qo (Ch rfl (qy nE)) ⟨_,qg rfl,rfl,hJ,λ_ _ _ h=>h⟩
  |12,ho=>
   cases ho;cases hd;have A9:y 26=.pointer (some ⟨cl,1+n*3,none⟩):=jo 11 _ 26 rfl rfl (qj rfl);exact qo (OV 1 (by decide) rfl (qy A9)) ⟨_,qg rfl,rfl,hJ,λ_ _ _ h=>h⟩
  |13,ho=>
   cases ho;cases hd;have wN:y 27=.pointer (some ⟨cl,1+n*3+1,none⟩):=jo 12 _ 27 rfl rfl (qj rfl);exact qo (zo (ty:=77) rfl (qy wN) (by simp[isAgg]) ((xcb (old cl Cm)).trans cD)) ⟨_,qg rfl,rfl,hJ,λ_ _ _ h=>h⟩
  |14,ho=>
   cases ho;cases hd;have Eh:y 28=.pointer (some ⟨db,0,none⟩):=jo 13 _ 28 rfl rfl (qj rfl);refine DX (q0a rfl (qy Eh) rfl rfl func56 rfl rfl) (UA ((xcb (old _ ltd)).trans cm) (hm.block (old _ hm.lt)) iR hL jV ⟨#[]⟩ ⟨#[]⟩) ?_;have he:L.filter (inB (⟨#[]⟩:ByteArray).data.toList (⟨#[]⟩:ByteArray).data.toList)=L:=q8j L;rw[he];rintro e w2 ⟨v,rfl,hr,hb⟩;obtain⟨s,c,rfl⟩:=D5 hr;exact⟨_,rfl,_,qg rfl,⟨s,c,rfl,(AB hr.1 hr.2 hJ.size rfl).1⟩,hJ.trans (hb.mono hJ.size),λi u _ h=>Wn i u _ _ hb h⟩
  |15,ho=>
   cases ho;cases hd;have k4:y 19=.int .i64 id:=jo 4 _ 19 rfl rfl (qj rfl);have k8:y 23=.int .i64 ow:=jo 8 _ 23 rfl rfl (qj rfl);have k9:y 24=.int .i64 to:=jo 9 _ 24 rfl rfl (qj rfl);obtain⟨s,c,Cn,r14⟩:Kbg cl n db id ow to L w 14 (y 29) w1:=jo 14 _ 29 rfl rfl (qj rfl);exact qo (qwi rfl (qy k4) (qy k8) (qy k9) (qy Cn)) ⟨_,qg rfl,⟨s,c,rfl,Cn▸r14⟩,hJ,λ_ _ _ h=>h⟩
  |16,ho=>
   cases ho;cases hd;obtain⟨s,c,Eg,TR⟩:Kbg cl n db id ow to L w 15 (y 30) w1:=jo 15 _ 30 rfl rfl (qj rfl);have gB:ai w1.heap.size w1 (w1.alloc (.cells #[.int .i64 id,.int .i64 ow,.int .i64 to,(.slice s L.length c),.slice none 0 0,.int .u8 0,.int .i64 0,.int .i64 0,.int .i64 0,.string ⟨#[]⟩,.string ⟨#[]⟩,.int .i64 0,.bool false] 135)):=(jg _ _).alloc (ji _) _;exact qo (q5m rfl (qy Eg)) ⟨_,qg rfl,⟨s,c,w1.heap.size,rfl,hJ.size,bh _ _,qi TR λq hq=>gB.block q (TR.lt q hq).2⟩,hJ.trans (gB.mono hJ.size),λi u _ h=>Wn i u _ _ gB h⟩
  |17,ho=>
   cases ho;cases hd;have k0:y 15=.pointer (some ⟨cl,1+n*3,none⟩):=jo 0 _ 15 rfl rfl (qj rfl);exact qo (Ch rfl (qy k0)) ⟨_,qg rfl,rfl,hJ,λ_ _ _ h=>h⟩
  |18,ho=>
   cases ho;cases hd;have Ef:y 32=.pointer (some ⟨cl,1+n*3,none⟩):=jo 17 _ 32 rfl rfl (qj rfl);exact qo (OV 2 (by decide) rfl (qy Ef)) ⟨_,qg rfl,rfl,hJ,λ_ _ _ h=>h⟩
  |19,ho=>
   obtain rfl:=xop (a:=bgo 19) rfl ho;exact absurd (show(bgo 19).dst=none from rfl) (by rw[hd];exact λe=>by cases e)
  |i+20,ho=>exact absurd ho (by rw[ao (show bg1.size<=i+20 by show 20<=i+20;omega)];exact λe=>by cases e)
 ·intro mm o y w1 tC ho hy hk hJ;obtain rfl:mm=19:=by
   have:mm+1=20:=tC;omega
  obtain rfl:=xop (a:=bgo 19) rfl ho;have ka:y 33=.pointer (some ⟨cl,1+n*3+2,none⟩):=hk 18 (bgo 18) 33 rfl rfl;obtain⟨s,c,g,kb,q1,q2,q3⟩:Kbg cl n db id ow to L w 16 (y 31) w1:=hk 16 (bgo 16) 31 rfl rfl;obtain⟨v0,cV⟩:=cV;have eH:=xbl w _ cV;have kI:w1.cell? ⟨cl,1+n*3+2,none⟩=some v0:=(xcb (hJ.block _ eH)).trans cV;have gF:w1.frozen? ⟨cl,1+n*3+2,none⟩=false:=(bX (hJ.block _ eH)).trans fV;have hr:(ae (bV (lay 46 y) []).eval (bgo 19)).run prog w1=.ok .skip (w1.setCell ⟨cl,1+n*3+2,none⟩ (.pointer (some ⟨g,0,none⟩))):=by
   have e1:(bV (lay 46 y) []).eval (.tmp 33)=.pointer (some ⟨cl,1+n*3+2,none⟩):=tmp (by decide) ka;have e2:(bV (lay 46 y) []).eval (.tmp 31)=.pointer (some ⟨g,0,none⟩):=tmp (by decide) kb;have eU:(bgo 19).op=.store 78 (.tmp 33) (.tmp 31):=rfl;have hu:=underlying78;generalize (bV (lay 46 y) []).eval=ev at*;unfold ae;simp[go_sem,eU,e1,e2,hu,isAgg,kI,gF]
  unfold Oper.wp;rw[hr];exact hQ y w1 g s c hy hJ q1 q2 q3
end
end Ph
open Go.RowKit Go.Maps
section
variable {w w':aa} {F F':Nat->Prop} {A:PA} {s:St} {n:Nat}
theorem yc.turn (h:yc w F A s) (A':PA) (s':St) (hb:But (· =A.cl) w w') (oG:w'.heap[A.cl]?=some (.cells (kz A' s') 83 (0,0))) (e1:A'.cl=A.cl) (e2:A'.db=A.db) (e3:A'.mb=A.mb) (e4:A'.sm=A.sm/\A'.sP=A.sP) (e5:s'.kv=s.kv) (e6:s'.sg=s.sg)
  (fq:∀i,i<4->(∀(b:Nat) (cur:Array ac) (ty:bA),w.heap[b]?=some (aF cur ty (0,0))->ty≠83->w'.heap[b]?=w.heap[b]?)->mU w' F' A' i (s'.mv i)) (hF:∀b,F b->F' b)
  (oD:∀i j g,i<4->j<4->A'.mp i=some g->A'.mp j=some g->i=j) (Et:∀i j g,i<4->j<4->(A'.cv i).ownBlock=some g->(A'.cv j).ownBlock=some g->i=j):yc w' F' A' s':=by
 have lt:∀{b:Nat} {o:Obj},w.heap[b]?=some o->b<w.heap.size:=λhb=>(zi hb).1;have iK:∀(b:Nat) (cur:Array ac) (ty:bA),w.heap[b]?=some (aF cur ty (0,0))->ty≠83->w'.heap[b]?=w.heap[b]?:=λb cur ty eZ n1=>hb.keep b (lt eZ) λe=>by
  rw[e,h.cl.2]at eZ;have e2:=xoi eZ;injection e2 with _ e3;exact n1 e3.symm
 have zH:∀b,(∃es ck,w.heap[b]?=some (Obj.map es ck))->w'.heap[b]?=w.heap[b]?:=λb ⟨es,ck,eZ⟩=>hb.keep b (lt eZ) λe=>by
  rw[e,h.cl.2]at eZ;cases eZ
 refine⟨⟨hF _ (e1▸h.cl.1),e1▸oG⟩,λi hi=>?_,λi hi=>?_,by rw[e3];exact h.mbi,λi hi=>fq i hi iK,oD,Et,?_,by rw[e3,e4.1];exact h.smb⟩
 ·rw[e2,e3];exact⟨hF _ (h.db i hi).1,(iK _ _ _ (h.db i hi).2 (by decide)).trans (h.db i hi).2⟩
 ·rw[e3,e5];obtain⟨es,ck,eZ,_⟩:=(h.mb i hi).2;exact⟨hF _ (h.mb i hi).1,(h.mb i hi).2.block (zH _ ⟨es,ck,eZ⟩)⟩
 ·rw[e6];exact h.yu.keep (λb cur ty eZ ht=>iK b cur ty eZ (by rcases ht with rfl|rfl<;>decide)) (λb eZ _=>zH b eZ) hF e4.1 e4.2 e3
theorem yc.drop (h:yc w F A s) (hn:n<4):yc (w.setCell ⟨A.cl,1+n*3+2,none⟩ (.pointer none)) F {A with mp:=qx A.mp n none,cv:=qx A.cv n (.slice none 0 0)} {s with mv:=qx s.mv n none}/\But F w (w.setCell ⟨A.cl,1+n*3+2,none⟩ (.pointer none)):=by
 have hs:=xhs w A.cl (1+n*3+2) _ _ (.pointer none) h.cl.2;have hb:But (· =A.cl) w (w.setCell ⟨A.cl,1+n*3+2,none⟩ (.pointer none)):=But.setCell (B:=(· =A.cl)) (But.refl _ _) rfl _ _;refine⟨h.turn _ _ hb ?_ rfl rfl rfl ⟨rfl,rfl⟩ rfl rfl (λi hi no=>?_) (λ_ h=>h) (λi j g hi hj h1 h2=>?_) (λi j g hi hj h1 h2=>?_),hb.mono λb e=>e▸h.cl.1⟩
 ·rw[hs];match n,hn with
  |0,_|1,_|2,_|3,_=>rfl
 ·show mU _ F _ i (qx s.mv n none i);by_cases e:i=n
  ·subst e;rw[jc];exact⟨jc ..,by show(qx A.cv i (.slice none 0 0) i).ownBlock=none;rw[jc];rfl⟩
  ·rw[q9 _ _ e];have h0:=(h.mv i hi).keep (w':=w.setCell ⟨A.cl,1+n*3+2,none⟩ (.pointer none)) (λb c _ hb=>no b c _ hb (by decide)) (λb c _ hb=>no b c _ hb (by decide)) (λb c _ hb=>no b c _ hb (by decide));have e1:qx A.mp n none i=A.mp i:=q9 _ _ e;have e2:qx A.cv n (.slice none 0 0) i=A.cv i:=q9 _ _ e;cases hm:s.mv i with
   |none=>rw[hm]at h0;exact⟨e1.trans h0.1,by show(qx A.cv n (.slice none 0 0) i).ownBlock=none;rw[e2];exact h0.2⟩
   |some m=>
    rw[hm]at h0;obtain⟨g,z1,z2,z3,z4,z5,z6,z7⟩:=h0;refine⟨g,e1.trans z1,z2,?_,z4,?_,z6,?_⟩
    ·rw[z3];show _=some (aF (zw i (A.pv i) (qx A.cv n (.slice none 0 0) i) (A.ld i) m) _ _);rw[e2]
    ·show wE _ (qx A.cv n (.slice none 0 0) i) m.cs;rw[e2];exact z5
    ·intro b hb;have hb:(qx A.cv n (.slice none 0 0) i).ownBlock=some b:=hb;rw[e2]at hb;exact z7 b hb
 ·have h1:qx A.mp n none i=some g:=h1;have h2:qx A.mp n none j=some g:=h2;by_cases e1:i=n
  ·subst e1;rw[jc]at h1;cases h1
  ·by_cases e2:j=n
   ·subst e2;rw[jc]at h2;cases h2
   ·rw[q9 _ _ e1]at h1;rw[q9 _ _ e2]at h2;exact h.mpi i j g hi hj h1 h2
 ·have h1:(qx A.cv n (.slice none 0 0) i).ownBlock=some g:=h1;have h2:(qx A.cv n (.slice none 0 0) j).ownBlock=some g:=h2;by_cases e1:i=n
  ·subst e1;rw[jc]at h1;cases h1
  ·by_cases e2:j=n
   ·subst e2;rw[jc]at h2;cases h2
   ·rw[q9 _ _ e1]at h1;rw[q9 _ _ e2]at h2;exact h.cvi i j g hi hj h1 h2
def movE (s:St) (k:Int):Int:=if k<0\/3<k then 8 else match s.mv k.toNat with
 |none=>11
 |some _=>0
theorem WB (k:Int) (hk:k<0\/3<k) (xS: -9223372036854775808<=k/\k<=9223372036854775807) (cl:Nat):az prog 60 #[.pointer (some ⟨cl,0,none⟩),.int .i64 k] w λe w'=>e=.returned (.tuple #[.pointer none,.int .i64 8])/\w'=w:=by
 rcases bD k 0 with h2|h2
 ·have g1:decide (k<0)=true:=xdt h2;go_enter func60,ntmps60;go_wp2;go_ret2;exact⟨rfl,rfl⟩
 ·have g1:decide (k<0)=false:=xdf (by omega);have g2:decide (4<=k)=true:=xdt (by omega);go_enter func60,ntmps60;go_wp2;go_ret2;exact⟨rfl,rfl⟩
theorem VK (h:yc w F A s) (hn:n<4):az prog 60 #[.pointer (some ⟨A.cl,0,none⟩),.int .i64 n] w λe w'=>(match s.mv n with
  |none=>e=.returned (.tuple #[.pointer none,.int .i64 11])
  |some _=>e=.returned (.tuple #[.pointer (some ⟨A.cl,1+n*3,none⟩),.int .i64 0]))/\w'=w:=by
 have tq:((n:Int)<4):=by omega
 have g1:decide ((n:Int)<0)=false:=xdf (by omega);have g2:decide ((4:Int)<=n)=false:=xdf (by omega);have c:=(h.part n hn).v;have hm:=h.mv n hn;cases fq:s.mv n with
 |none=>
  rw[fq]at hm;rw[hm.1]at c;have c:w.cell? ⟨A.cl,1+n*3+2,none⟩=some (.pointer none):=c;clear hm h;go_enter func60,ntmps60;go_wp2;go_ret2;exact⟨rfl,rfl⟩
 |some m=>
  rw[fq]at hm;obtain⟨x,z1,_⟩:=hm;rw[z1]at c;have c:w.cell? ⟨A.cl,1+n*3+2,none⟩=some (.pointer (some ⟨x,0,none⟩)):=c;clear z1 h;go_enter func60,ntmps60;go_wp2;go_ret2;exact⟨rfl,rfl⟩
end
namespace Ph
open Go.Conc Go.ConcN Go.RowKit Go.Maps Go.Conc.Lib Go Sim
def abE (s:St) (k:Int):Int:=if k<0\/3<k then 8 else match s.mv k.toNat with
 |none=>11
 |some m=>if m.sealed then 12 else 0
def abS (s:St) (k:Int):St:=if k<0\/3<k then s else match s.mv k.toNat with
 |none=>s
 |some m=>if m.sealed then s else{s with mv:=qx s.mv k.toNat none}
section
variable {w w':aa} {F:Nat->Prop} {A:PA} {s:St}
theorem q4y (h:yc w F A s) (k:Int) (xS: -9223372036854775808<=k/\k<=9223372036854775807):az prog 33 #[.pointer (some ⟨A.cl,0,none⟩),.int .i64 k] w (rX w F A (.int .i64 (abE s k)) (abS s k)):=by
 by_cases hk:k<0\/3<k
 ·have HE:Hid (abE s k=8/\abS s k=s):=Hd ⟨by unfold abE;rw[if_pos hk],by unfold abS;rw[if_pos hk]⟩;have H:=Hd h;rw[HE.1,HE.2];clear h;go_enter func33,ntmps33;go_wp2_with (go_at_call 60;refine(WB k hk xS A.cl).mono ?_;rintro e w' ⟨rfl,rfl⟩)
  go_ret;exact .idle H.o (jg _ _)
 ·obtain⟨n,rfl⟩:∃n:Nat,k=n:=⟨k.toNat,by omega⟩
  have hn:n<4:=by omega
  have ng:=VK h hn;have hm:=h.mv n hn;have hv:=(h.part n hn).v;have gX:=h.cells (1+n*3+2) _ (Lx A s n hn).2.2;cases fq:s.mv n with
  |none=>
   have HE:Hid (abE s (n:Int)=11/\abS s (n:Int)=s):=Hd ⟨by unfold abE;rw[if_neg hk,aA,fq],by unfold abS;rw[if_neg hk,aA,fq]⟩;have H:=Hd h;rw[HE.1,HE.2];rw[fq]at ng;clear h hm hv gX fq hk;go_enter func33,ntmps33;go_wp2_with (go_at_call 60;refine ng.mono ?_;rintro e w' ⟨rfl,rfl⟩)
   go_ret;exact .idle H.o (jg _ _)
  |some m=>
   rw[fq]at hm ng;obtain⟨x,z1,z2,z3,_⟩:=hm;rw[z1]at hv;replace hv:w.cell? ⟨A.cl,1+n*3+2,none⟩=some (.pointer (some ⟨x,0,none⟩)):=hv;have hf:=gX.2;have jE:w.cell? ⟨x,12,none⟩=some (.bool m.sealed):=by simp[ah,z3,zw]
   have HE:Hid (abE s (n:Int)=(if m.sealed then 12 else 0)/\abS s (n:Int)=if m.sealed then s else{s with mv:=qx s.mv n none}):=Hd ⟨by unfold abE;rw[if_neg hk,aA,fq],by unfold abS;rw[if_neg hk,aA,fq]⟩;have H:=Hd h;rw[HE.1,HE.2];clear h gX fq hk z1 z2 z3;cases hs:m.sealed
   ·rw[hs]at jE;rw[if_neg (by decide),if_neg (by decide)];clear hs;go_enter func33,ntmps33;go_wp2_with (go_at_call 60;refine ng.mono ?_;rintro e w' ⟨rfl,rfl⟩)
    go_ret;exact⟨rfl,{A with mp:=qx A.mp n none,cv:=qx A.cv n (.slice none 0 0)},rfl,(H.drop hn).1.mono λ_ h=>.inl h,(H.drop hn).2⟩
   ·rw[hs]at jE;rw[if_pos rfl,if_pos rfl];clear hs;go_enter func33,ntmps33;go_wp2_with (go_at_call 60;refine ng.mono ?_;rintro e w' ⟨rfl,rfl⟩)
    go_ret;exact .idle H.o (jg _ _)
end
end Ph
open Go.RowKit Go.Maps
def bgM (s:St) (n to:Nat):Mv:=⟨s.id+1,s.ow n,to,s.kv n,[],[],0,0,0,false⟩
def bgS (s:St) (n to:Nat):St:={s with id:=s.id+1,mv:=qx s.mv n (some (bgM s n to))}
def mvE (s:St) (k to:Int):Int:=if k<0\/3<k then 8 else if to<0\/s.hosts<=to then 1 else if(s.mv k.toNat).isSome then 10 else if(s.ow k.toNat:Int)=to then 9 else 0
def mvS (s:St) (k to:Int):St:=if mvE s k to=0 then bgS s k.toNat to.toNat else s
section
variable {w w':aa} {F:Nat->Prop} {A:PA} {s:St} {n:Nat}
def bgA (A:PA) (n g:Nat) (pv:ac):PA:={A with mp:=qx A.mp n (some g),pv:=qx A.pv n pv,cv:=qx A.cv n (.slice none 0 0),ld:=qx A.ld n ⟨#[]⟩}
theorem mU.same {C:PA} {m:Option Mv} (h:mU w F A i m) (e1:C.mp i=A.mp i) (e2:C.pv i=A.pv i) (e3:C.cv i=A.cv i) (e4:C.ld i=A.ld i):mU w F C i m:=by
 cases m with
 |none=>exact⟨e1.trans h.1,by rw[e3];exact h.2⟩
 |some m=>
  obtain⟨g,h1,h2,h3,h4,h5,h6,h7⟩:=h;exact⟨g,e1.trans h1,h2,by rw[e2,e3,e4];exact h3,by rw[e2];exact h4,by rw[e3];exact h5,by rw[e2];exact h6,by rw[e3];exact h7⟩
theorem mU.Ih {m:Option Mv} (h:mU w F A i m) (e:A.mp i=some g):g<w.heap.size:=by
 cases m with
 |none=>rw[h.1]at e;cases e
 |some m=>
  obtain⟨g',h1,h2,h3,_⟩:=h;rw[h1]at e;cases e;exact(zi h3).1
theorem qmv (A:PA) (s:St) (n to g:Nat) (pv:ac):n<4->((kz A s).setIfInBounds 14 (.int .i64 ((s.id+1:Nat):Int))).setIfInBounds (1+n*3+2) (.pointer (some ⟨g,0,none⟩))=kz (bgA A n g pv) (bgS s n to):=by
 intro hn;match n,hn with
 |0,_|1,_|2,_|3,_=>rfl
theorem yc.begin {to:Nat} (h:yc w F A s) (hn:n<4) (hb:But (· =A.cl) w w') (oG:w'.heap[A.cl]?=some (.cells (kz (bgA A n g pv) (bgS s n to)) 83 (0,0)))
  (hg:w'.heap[g]?=some (.cells (zw n pv (.slice none 0 0) ⟨#[]⟩ (bgM s n to)) 135 (0,0))) (iT:w.heap.size<=g) (hr:w'.ownsRow w.heap.size 74 2 pv (s.kv n).length (flat (s.kv n))):yc w' (λb=>F b\/w.heap.size<=b) (bgA A n g pv) (bgS s n to):=by
 refine h.turn (bgA A n g pv) (bgS s n to) hb oG rfl rfl rfl ⟨rfl,rfl⟩ rfl rfl (λi hi no=>?_) (λ_ h=>.inl h) (λi j q hi hj h1 h2=>?_) (λi j q hi hj h1 h2=>?_)
 ·show mU w' _ _ i (qx s.mv n _ i);by_cases e:i=n
  ·subst e;rw[jc];have e1:(bgA A i g pv).pv i=pv:=jc ..;have e2:(bgA A i g pv).cv i=.slice none 0 0:=jc ..;have e3:(bgA A i g pv).ld i=⟨#[]⟩:=jc ..;refine⟨g,jc ..,.inr iT,by rw[e1,e2,e3];exact hg,?_,?_,λb gK=>.inr ?_,λb gK=>?_⟩
   ·rw[e1];exact⟨hr.1,hr.2.imp id λ⟨g,cap,cur,e,_,r⟩=>⟨g,cap,cur,e,xzl _,r⟩⟩
   ·rw[e2];exact aH _ _ _ _
   ·rw[e1]at gK;exact(hr.lt b gK).1
   ·rw[e2]at gK;cases gK
  ·rw[q9 _ _ e];exact(((h.mv i hi).keep (w':=w') (λb c _ hb=>no b c _ hb (by decide)) (λb c _ hb=>no b c _ hb (by decide)) (λb c _ hb=>no b c _ hb (by decide))).mono λ_ h=>.inl h).same (q9 _ _ e) (q9 _ _ e) (q9 _ _ e) (q9 _ _ e)
 ·replace h1:qx A.mp n (some g) i=some q:=h1;replace h2:qx A.mp n (some g) j=some q:=h2;by_cases e1:i=n
  ·by_cases e2:j=n
   ·omega
   ·subst e1;rw[jc]at h1;rw[q9 _ _ e2]at h2;cases h1;have:=(h.mv j hj).Ih h2;omega
  ·rw[q9 _ _ e1]at h1;by_cases e2:j=n
   ·subst e2;rw[jc]at h2;cases h2;have:=(h.mv i hi).Ih h1;omega
   ·rw[q9 _ _ e2]at h2;exact h.mpi i j q hi hj h1 h2
 ·replace h1:(qx A.cv n (.slice none 0 0) i).ownBlock=some q:=h1;replace h2:(qx A.cv n (.slice none 0 0) j).ownBlock=some q:=h2;by_cases e1:i=n
  ·subst e1;rw[jc]at h1;cases h1
  ·by_cases e2:j=n
   ·subst e2;rw[jc]at h2;cases h2
   ·rw[q9 _ _ e1]at h1;rw[q9 _ _ e2]at h2;exact h.cvi i j q hi hj h1 h2
theorem qru (h:yc w F A s) (hn:n<4) (e:wA=w.setCell ⟨A.cl,14,none⟩ (.int .i64 ((s.id+1:Nat):Int))):
  wA.cell? ⟨A.cl,14,none⟩=some (.int .i64 ((s.id+1:Nat):Int))/\wA.cell? ⟨A.cl,1+n*3,none⟩=some (.int .i64 (s.ow n))/\wA.cell? ⟨A.cl,1+n*3+1,none⟩=some (.pointer (some ⟨A.db n,0,none⟩))/\wA.cell? ⟨A.cl,1+n*3+2,none⟩=some (ptr (A.mp n))/\wA.frozen? ⟨A.cl,1+n*3+2,none⟩=false/\wA.cell? ⟨A.db n,0,none⟩=some (.map (some (A.mb n)))/\zk wA (A.mb n) (s.kv n)/\wA.heap[A.cl]?=some (.cells ((kz A s).setIfInBounds 14 (.int .i64 ((s.id+1:Nat):Int))) 83 (0,0))/\wA.heap.size=w.heap.size/\But (· =A.cl) w wA:=by
 have hs:=xhs w A.cl 14 _ _ (.int .i64 ((s.id+1:Nat):Int)) h.cl.2;have ho:∀b,b≠A.cl->wA.heap[b]?=w.heap[b]?:=λb hb=>by rw[e];exact xho w _ b _ hb
 have hd:A.db n≠A.cl:=λe2=>by
  have:=(h.db n hn).2;rw[e2,h.cl.2]at this;have e3:=xoi this;injection e3 with _ e4;exact absurd e4 (by decide)
 have hm:A.mb n≠A.cl:=λe2=>ve (h.mb n hn).2 h.cl.2 e2.symm;rw[<-e]at hs;obtain⟨p1,p2,p3⟩:=Lx A s n hn;refine⟨by simp[ah,hs,kz],?_,?_,?_,by simp[ay,hs],by rw[xcb (ho _ hd)];simp[ah,(h.db n hn).2],(h.mb n hn).2.block (ho _ hm),hs,by rw[e];simp,by rw[e];exact But.setCell (B:=(· =A.cl)) (But.refl _ _) rfl _ _⟩;all_goals
  simp only[ah,hs];rw[xne (by omega)]
 ·simp[p1]
 ·simp[p2,ptr]
 ·simp[p3]
theorem qy2 {id ow:Int} (hn:n<4) (h8:wA.heap[A.cl]?=some (.cells ((kz A s).setIfInBounds 14 (.int .i64 ((s.id+1:Nat):Int))) 83 (0,0))) (hb:ai wA.heap.size wA w1) (iT:wA.heap.size<=g)
  (hg:w1.heap[g]?=some (.cells #[.int .i64 id,.int .i64 ow,.int .i64 to,pv,.slice none 0 0,.int .u8 0,.int .i64 0,.int .i64 0,.int .i64 0,.string ⟨#[]⟩,.string ⟨#[]⟩,.int .i64 0,.bool false] 135 (0,0))) (e:w2=w1.setCell ⟨A.cl,1+n*3+2,none⟩ (.pointer (some ⟨g,0,none⟩))):
  w2.cell? ⟨A.cl,1+n*3+2,none⟩=some (.pointer (some ⟨g,0,none⟩))/\w2.cell? ⟨A.cl,14,none⟩=some (.int .i64 ((s.id+1:Nat):Int))/\w2.cell? ⟨g,5,none⟩=some (.int .u8 0)/\w2.cell? ⟨g,6,none⟩=some (.int .i64 0)/\w2.cell? ⟨g,7,none⟩=some (.int .i64 0)/\w2.cell? ⟨g,8,none⟩=some (.int .i64 0)/\w2.cell? ⟨g,9,none⟩=some (.string ⟨#[]⟩)/\(∀j,w2.frozen? ⟨g,j,none⟩=false)/\
   w2.heap[A.cl]?=some (.cells (((kz A s).setIfInBounds 14 (.int .i64 ((s.id+1:Nat):Int))).setIfInBounds (1+n*3+2) (.pointer (some ⟨g,0,none⟩))) 83 (0,0))/\w2.heap[g]?=w1.heap[g]?/\g≠A.cl:=by
 have eH:=(zi h8).1;have fA:g≠A.cl:=by omega
 have h1:=(hb.block _ eH).trans h8;have hs:=xhs w1 A.cl (1+n*3+2) _ _ (.pointer (some ⟨g,0,none⟩)) h1;have ho:w2.heap[g]?=w1.heap[g]?:=by rw[e];exact xho w1 _ g _ fA
 rw[<-e]at hs;have gL:=ho.trans hg;have fC:(kz A s).size=16:=rfl;refine⟨?_,?_,by simp[ah,gL],by simp[ah,gL],by simp[ah,gL],by simp[ah,gL],by simp[ah,gL],λj=>by simp[ay,gL],hs,ho,fA⟩
 ·simp only[ah,hs];rw[xsl (by simp[fC];omega)];rfl
 ·simp only[ah,hs];rw[xne (by omega),xsl (by simp[fC])];rfl
theorem qy1 {to:Nat} (h:yc w F A s) (hn:n<4) (oH:But (· =A.cl) w wA) (hz:wA.heap.size=w.heap.size) (hb:ai wA.heap.size wA w1) (iT:wA.heap.size<=g)
  (hg:w1.heap[g]?=some (.cells #[.int .i64 ((s.id+1:Nat):Int),.int .i64 (s.ow n),.int .i64 to,pv,.slice none 0 0,.int .u8 0,.int .i64 0,.int .i64 0,.int .i64 0,.string ⟨#[]⟩,.string ⟨#[]⟩,.int .i64 0,.bool false] 135 (0,0)))
  (hr:w1.ownsRow wA.heap.size 74 2 pv (s.kv n).length (flat (s.kv n))) (e:w2=w1.setCell ⟨A.cl,1+n*3+2,none⟩ (.pointer (some ⟨g,0,none⟩)))
  (hc:w2.heap[A.cl]?=some (.cells (((kz A s).setIfInBounds 14 (.int .i64 ((s.id+1:Nat):Int))).setIfInBounds (1+n*3+2) (.pointer (some ⟨g,0,none⟩))) 83 (0,0))) (ho:w2.heap[g]?=w1.heap[g]?) (fA:g≠A.cl)
  (e3:w3=((((w2.setCell ⟨g,5,none⟩ (.int .u8 0)).setCell ⟨g,6,none⟩ (.int .i64 n)).setCell ⟨g,7,none⟩ (.int .i64 ((s.id:Int)+1))).setCell ⟨g,8,none⟩ (.int .i64 0)).setCell ⟨g,9,none⟩ (.string ⟨#[]⟩)):
  yc w3 (λb=>F b\/w.heap.size<=b) (bgA A n g pv) (bgS s n to)/\But F w w3:=by
 have k1:=xhs w2 g 5 _ _ (.int .u8 0) (ho.trans hg);have k2:=xhs _ g 6 _ _ (.int .i64 n) k1;have k3:=xhs _ g 7 _ _ (.int .i64 ((s.id:Int)+1)) k2;have k4:=xhs _ g 8 _ _ (.int .i64 0) k3;have k5:=xhs _ g 9 _ _ (.string ⟨#[]⟩) k4;have Yd:∀b,b≠g->w3.heap[b]?=w2.heap[b]?:=λb hb=>by
  rw[e3,xho _ _ _ _ hb,xho _ _ _ _ hb,xho _ _ _ _ hb,xho _ _ _ _ hb,xho _ _ _ _ hb]
 rw[<-e3]at k5;have kF:But (λb=>b=A.cl\/w.heap.size<=b) w w3:=by
  rw[e3,e];refine But.setCell (But.setCell (But.setCell (But.setCell (But.setCell (But.setCell ((oH.mono λb h=>.inl h).trans (But.of_below (B:=λb=>b=A.cl\/w.heap.size<=b) hb)) (.inl rfl) _ _) ?_ _ _) ?_ _ _) ?_ _ _) ?_ _ _) ?_ _ _;all_goals exact .inr (by omega)
 have YW:But (· =A.cl) w w3:=⟨kF.size,λb hb hn=>kF.keep b hb λx=>x.elim hn λy=>by omega,kF.os,kF.output⟩
 have gY:w3.ownsRow w.heap.size 74 2 pv (s.kv n).length (flat (s.kv n)):=by
  rw[hz]at hr;refine qi hr λq hq=>?_;have hqg:q≠g:=λx=>by
   obtain⟨c,kH⟩:=jm hr hq;rw[x,hg]at kH;have e2:=xoi kH;injection e2 with _ e4;exact absurd e4 (by decide)
  have hqc:q≠A.cl:=λx=>by
   have:=(hr.lt q hq).1;have:=h.clt;omega
  rw[Yd q hqg,e];exact xho _ _ _ _ hqc
 refine⟨h.begin hn YW ?_ (k5.trans rfl) (by omega) gY,YW.mono λb e=>e▸h.cl.1⟩;rw[Yd A.cl λx=>fA x.symm,hc,qmv A s n to g pv hn]
end
namespace Ph
open Go.Conc Go.ConcN Go.RowKit Go.Maps Go.Conc.Lib Go Sim
section
variable {w w':aa} {F:Nat->Prop} {A:PA} {s:St} {n:Nat}
theorem q43 (h:yc w F A s) (hn:n<4) (iR:jr (s.kv n)) (hL:(s.kv n).length<=12) (jV:∀p∈s.kv n,p.1.length<=bB) (to:Nat) (hid:s.id<=4611686018427387904):
  az prog 58 #[.pointer (some ⟨A.cl,0,none⟩),.pointer (some ⟨A.cl,1+n*3,none⟩),.int .i64 n,.int .i64 to] w (rX w F A (.tuple #[]) (bgS s n to)):=by
 have c14:w.cell? ⟨A.cl,14,none⟩=some (.int .i64 s.id):=(h.cells 14 _ rfl).1;have f14:=(h.cells 14 (.int .i64 s.id) rfl).2;have H:=Hd h;have HR:=Hd (ag iR (ag hL jV));have SE:((s.id:Int)+1<=9223372036854775807):=by omega
 clear h iR hL jV;go_enter func58,ntmps58;go_wp2;have IG:w.setCell ⟨A.cl,14,none⟩ (.int .i64 ((s.id:Int)+1))=w.setCell ⟨A.cl,14,none⟩ (.int .i64 ((s.id+1:Nat):Int)):=rfl;obtain⟨a1,a2,a3,a4,a5,a6,a7,a8,a9,mJ⟩:=qru H.o hn IG;have Rm:=Hd (ag a8 (ag a9 mJ));generalize w.setCell ⟨A.cl,14,none⟩ (.int .i64 ((s.id:Int)+1))=wA at*;clear IG a8 a9 mJ c14 f14;change co _ (ak 1 bg1 true) _ _ _;refine jgq (cl:=A.cl) (n:=n) (db:=A.db n) (mb:=A.mb n) (id:=s.id+1) (ow:=s.ow n) (to:=to) (L:=s.kv n) rfl rfl rfl rfl rfl a1 a2 a3 ⟨_,a4⟩ a5 a6 a7 HR.1 HR.2.1 HR.2.2 λy w1 g sa c hy iq iT hg hr=>?_;have y0:y 0=.pointer (some ⟨A.cl,0,none⟩):=hy 0 (xD (by kernel_rfl));have y1:y 1=.pointer (some ⟨A.cl,1+n*3,none⟩):=hy 1 (xD (by kernel_rfl));have y2:y 2=.int .i64 n:=hy 2 (xD (by kernel_rfl));rw[jip,y0,y1,y2];obtain⟨w2,qI⟩:∃w2,w1.setCell ⟨A.cl,1+n*3+2,none⟩ (.pointer (some ⟨g,0,none⟩))=w2:=⟨_,rfl⟩
 rw[qI];obtain⟨d1,d2,d5,d6,d7,d8,d9,fr,z1,z2,z3⟩:=qy2 hn Rm.1 iq iT hg qI.symm;have HE:=Hd (λw3=>qy1 (w3:=w3) H.o hn Rm.2.2 Rm.2.1 iq iT hg hr qI.symm z1 z2 z3);clear z1 z2 z3;clear hy y0 y1 y2 a1 a2 a3 a4 a5 a6 a7 iq iT hg hr qI;go_wp2;refine aW 12 (by kernel_rfl) (by kernel_rfl) ?_;change wpStill _ _ w2.drew (λa'=>wpList _ _ _ _ a' w2.drew) _ _;simp only[aY,bG,aZ,bH];repeat still_step
 refine cn ?_;go_wp2;go_end0;have HF:=Hd (HE.o _ rfl);exact⟨rfl,bgA A n g _,rfl,HF.1.below (aI (jg _ _)),HF.2.drew⟩
theorem KA {k:Int} (hk:k<0\/3<k):mvE s k to=8/\mvS s k to=s:=by
 have h:mvE s k to=8:=by unfold mvE;rw[if_pos hk]
 exact⟨h,by unfold mvS;rw[h];rfl⟩
theorem KI {k:Int} (hk:¬(k<0\/3<k)) (ht:to<0\/s.hosts<=to):mvE s k to=1/\mvS s k to=s:=by
 have h:mvE s k to=1:=by unfold mvE;rw[if_neg hk,if_pos ht]
 exact⟨h,by unfold mvS;rw[h];rfl⟩
theorem KL (hn:n<4) (ht:¬(to<0\/s.hosts<=to)) {m:Mv} (hm:s.mv n=some m):mvE s n to=10/\mvS s n to=s:=by
 have h:mvE s n to=10:=by unfold mvE;rw[if_neg (by omega),if_neg ht,aA,hm];rfl
 exact⟨h,by unfold mvS;rw[h];rfl⟩
theorem KJ (hn:n<4) (ht:¬(to<0\/s.hosts<=to)) (hm:s.mv n=none) (ho:(s.ow n:Int)=to):mvE s n to=9/\mvS s n to=s:=by
 have h:mvE s n to=9:=by unfold mvE;rw[if_neg (by omega),if_neg ht,aA,hm,if_neg (by decide),if_pos ho]
 exact⟨h,by unfold mvS;rw[h];rfl⟩
theorem Ko {to:Nat} (hn:n<4) (ht:to<s.hosts) (hm:s.mv n=none) (ho:s.ow n≠to):mvE s n to=0/\mvS s n to=bgS s n to:=by
 have h:mvE s n to=0:=by unfold mvE;rw[if_neg (by omega),if_neg (by omega),aA,hm,if_neg (by decide),if_neg (by omega)]
 exact⟨h,by unfold mvS;rw[h,if_pos rfl];rfl⟩
theorem q88 (h:yc w F A s) (iR:∀i,i<4->jr (s.kv i)) (hL:∀i,i<4->(s.kv i).length<=12) (jV:∀i,i<4->∀p∈s.kv i,p.1.length<=bB) (hid:s.id<=4611686018427387904) (k to:Int) (xS: -9223372036854775808<=k/\k<=9223372036854775807) (ht2: -9223372036854775808<=to/\to<=9223372036854775807):
  az prog 31 #[.pointer (some ⟨A.cl,0,none⟩),.int .i64 k,.int .i64 to] w (rX w F A (.int .i64 (mvE s k to)) (mvS s k to)):=by
 by_cases hk:k<0\/3<k
 ·rw[(KA hk).1,(KA hk).2];have H:=Hd h;clear h iR hL jV hid;rcases bD k 0 with h2|h2
  ·have g1:decide (k<0)=true:=xdt h2;go_enter func31,ntmps31;go_wp2;go_ret;exact .idle H.o (jg _ _)
  ·have g1:decide (k<0)=false:=xdf (by omega);have g2:decide (4<=k)=true:=xdt (by omega);go_enter func31,ntmps31;go_wp2;go_ret;exact .idle H.o (jg _ _)
 have c0:w.cell? ⟨A.cl,0,none⟩=some (.int .i64 s.hosts):=(h.cells 0 _ rfl).1;obtain⟨n,rfl⟩:∃n:Nat,k=n:=⟨k.toNat,by omega⟩
 have hn:n<4:=by omega
 have tq:((n:Int)<4):=by omega
 have g1:decide ((n:Int)<0)=false:=xdf (by omega);have g2:decide ((4:Int)<=n)=false:=xdf (by omega);by_cases ht:to<0\/s.hosts<=to
 ·rw[(KI hk ht).1,(KI hk ht).2];have H:=Hd h;clear h iR hL jV hid;rcases bD to 0 with h2|h2
  ·have g3:decide (to<0)=true:=xdt h2;go_enter func31,ntmps31;go_wp2;go_ret;exact .idle H.o (jg _ _)
  ·have g3:decide (to<0)=false:=xdf (by omega);have g4:decide ((s.hosts:Int)<=to)=true:=xdt (by omega);go_enter func31,ntmps31;go_wp2;go_ret;exact .idle H.o (jg _ _)
 obtain⟨to,rfl⟩:∃q:Nat,to=q:=⟨to.toNat,by omega⟩
 have g3:decide ((to:Int)<0)=false:=xdf (by omega);have g4:decide (s.hosts<=to)=false:=xdf (by omega);have cO:=(h.cells (1+n*3) _ (Lx A s n hn).1).1;have cV:=(h.part n hn).v;have hm:=h.mv n hn;cases fq:s.mv n with
 |some m=>
  rw[(KL hn ht fq).1,(KL hn ht fq).2];rw[fq]at hm;obtain⟨x,z1,_⟩:=hm;rw[z1]at cV;replace cV:w.cell? ⟨A.cl,1+n*3+2,none⟩=some (.pointer (some ⟨x,0,none⟩)):=cV;have H:=Hd h;clear h iR hL jV hid z1 fq hk ht;go_enter func31,ntmps31;go_wp2;go_ret;exact .idle H.o (jg _ _)
 |none=>
  rw[fq]at hm;rw[hm.1]at cV;replace cV:w.cell? ⟨A.cl,1+n*3+2,none⟩=some (.pointer none):=cV;by_cases ho:s.ow n=to
  ·rw[(KJ hn ht fq (by omega)).1,(KJ hn ht fq (by omega)).2];have H:=Hd h;rw[ho]at cO;clear h iR hL jV hid hm fq hk ht ho;go_enter func31,ntmps31;go_wp2;go_ret;exact .idle H.o (jg _ _)
  ·have g5:(s.ow n==to)=false:=by simpa using ho
   have hb:=q43 h hn (iR n hn) (hL n hn) (jV n hn) to hid;rw[(Ko hn (by omega) fq ho).1,(Ko hn (by omega) fq ho).2];have HB:=Hd hb;clear h iR hL jV hid hm fq hk ht ho hb;go_enter func31,ntmps31;go_wp2_with (go_at_call 58;refine HB.mono ?_;rintro e w' ⟨rfl,h2⟩;have H2:=Hd h2;clear h2)
   go_ret;exact⟨rfl,H2.o⟩
end
end Ph
end Go.Proofs.YtkpekiajdlolnabGreat
