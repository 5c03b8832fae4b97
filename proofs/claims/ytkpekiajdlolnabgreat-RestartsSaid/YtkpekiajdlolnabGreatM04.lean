/- PROVED: part 4 of the claim's ground. Conditions: those that each theorem names. -/
import Derived.Test.YtkpekiajdlolnabGreatM03
import Derived.Deep.RegionHeld3
import Derived.Deep.RegionWith
import Derived.Deep.WholeRow
import Derived.Test.YtkpekiajdlolnabGreatRows
import Derived.ProofKit
import Derived.OpenShut
import Derived.Carry
import Derived.Conc.Holds
import Derived.Deep.Slices
import Derived.ChangeArms
import Derived.Laws.IdiomStrings
import Derived.Maps.AppendAt
import Derived.Maps.Views
import Derived.Maps.RangeWalk
import Derived.DeepKeys5
import Derived.Shelf.SlIter.Nil
import Derived.Shelf.SortM.Plain
import Derived.Shelf.SortM.SortNone
import Derived.Ground.GgzProg
import Derived.Ground.SlgmProg
import Derived.Sort.KeysCollected
import Derived.Sort.Walk0
set_option linter.unusedVariables false
set_option linter.unusedSimpArgs false
set_option maxRecDepth 100000
set_option maxHeartbeats 16000000
variable{R:Go.Value->Go.World->Prop} {S:Go.Value} {b cb db g h i j k m mb most n x:Nat} {e:Go.Operand->Go.Value} {f:Go.FuncId} {l xs:List Go.Value} {t:Bool} {w w' w1 w2:Go.World} {ρ:Go.Proofs.YtkpekiajdlolnabGreat.Sim.Rel}
open Go.Proofs.Tryz
open Go renaming Value→aa,World→ac,execOp→ae,rounds_succ→ai,callFunc→az,Calls→aB,wp_loop_rounds→aD,TypeId→aI,yielded→aJ,undef→aK,heap_alloc_old→aM,Frame→bg,heap_alloc_new→bi,maxLen→bm,wp_region_still_tail→bw,MemPlace→bz,Operand→bJ,DataW→bO,wpList_append_own_at→bQ,FuncId→cn,wpStill_nil→cx,bytesBefore→cB,Ending→cF
open Go.World renaming cell?→ag,frozen?→aC,ownsRow_nil→aQ
open Go.Region renaming wanted→ah
open Go.World.ownsRow renaming lt→aj
open Array renaming getD_eq_getD_getElem?→ak,getElem?_toList→am,getElem?_append_left→aR,replicate→bN,getElem?_push→bR,ext→dw
open Go.ByteArray renaming toList_eq→al
open List renaming getElem?_take_of_lt→ao,mem_cons_of_mem→au,range→aw,getElem?_eq_some_iff→ax,length_take→aL,eq_nil_of_length_eq_zero→aO,mem_append_left→aS,getElem?_append_right→aT,getElem?_append_left→aU,take_succ_cons→aV,drop_succ_cons→aW,getElem?_eq_getElem→aX,mem_singleton→aZ,take_of_length_le→bh,length_filter_le→bk,mem_of_getElem?→bA,length_map→bB,take_zero→bC,drop_zero→bD,mem_range→bE,mem_cons→bG,all_eq_true→bI,length_append→bV,pairwise_map→ce,getElem?_map→cj,take_length→cu
open Go.Addr renaming add_lit→aq
open Go.Op renaming bytesLess→ay
open Go.RowKit renaming Below→aA
open ByteArray renaming getElem_eq_getElem_data→aE
open Go.Obj renaming cells→aF
open Nat renaming zero_add→aG,not_lt_zero→cC,not_le→cH,lt_or_ge→cU
open Go.Frame renaming enter→aH
open And renaming intro→aN
open UInt8 renaming ofNat→aP
open Go.DataW renaming weights→aY,weightsEach→bj,weightsAll→bp
open Bool renaming true_and→bq,and_eq_true→bH
open Go.Act renaming mk→bK
namespace Go.Proofs.YtkpekiajdlolnabGreat
open Go.RowKit Go.Maps
theorem jd9 (c:Nat):shd c=if c<104 then 0 else if c<110 then 1 else if c<117 then 2 else 3:=by
 unfold shd;by_cases h1:c<=103
 ·rw[if_pos h1,if_pos (show c<104 by omega)]
 ·rw[if_neg h1,if_neg (show¬c<104 by omega)];by_cases h2:c<=109
  ·rw[if_pos h2,if_pos (show c<110 by omega)]
  ·rw[if_neg h2,if_neg (show¬c<110 by omega)];by_cases h3:c<=116
   ·rw[if_pos h3,if_pos (show c<117 by omega)]
   ·rw[if_neg h3,if_neg (show¬c<117 by omega)]
def G6 (x:Int) (w:ac) (e:cF) (w':ac):Prop:=e=.returned (.int .i64 x)/\aA w.heap.size w w'
section
variable {w:ac}
theorem qz8 (s:ByteArray) (h:s.size=0\/8<s.size):aB prog 50 #[.string s] w (G6 (-1) w):=by
 rcases h with h|h
 ·have iP:decide ((s.size:Int)<1)=true:=by simp;omega
  go_enter func50,ntmps50;go_wp2;go_ret;exact⟨rfl,jg _ _⟩
 ·have iP:decide ((s.size:Int)<1)=false:=by simp;omega
  have Cu:decide ((8:Int)<s.size)=true:=by simp;omega
  go_enter func50,ntmps50;go_wp2;go_ret;exact⟨rfl,jg _ _⟩
theorem FD (s:ByteArray) (h:jD s.data.toList=true):aB prog 50 #[.string s] w (G6 (jk s.data.toList) w):=by
 simp only[jD,bH,decide_eq_true_eq,bI,WE]at h;obtain⟨h0,h8,hl⟩:=h;have h0:0<s.size:=by simpa using h0
 have h8:s.size<=8:=by simpa using h8
 have iP:decide ((s.size:Int)<1)=false:=by simp;omega
 have Cu:decide ((8:Int)<s.size)=false:=by simp;omega
 have hh:jk s.data.toList=shd (s[0]'h0).toNat:=by
  unfold jk;cases e:s.data.toList with
  |nil=>
   have:s.data.toList.length=s.size:=by simp
   rw[e]at this;simp at this;omega
  |cons a l=>
   have:s[0]=a:=by
    have h1:s[0]=s.data.toList[0]'(by simpa using h0):=by simp[aE]
    rw[h1];simp[e]
   rw[this];rfl
 rw[hh];have HL:=Hd hl;clear hl hh;go_enter func50,ntmps50;go_wp2;go_loopw [3] (λi w'=>∃k:Nat,k<=s.size/\i=.int .i64 k/\w'=w) (λi _=>s.size-(intOf i).toNat);case atStart=>exact⟨0,xzl _,rfl,rfl⟩
 case round=>
  obtain⟨k,hk,rfl,rfl⟩:=hrel;by_cases hp:k<s.size
  ·have eH:=HL.o (s[k]'hp) (by simp[aE]);have g1:decide (((s[k]'hp).toNat:Int)<97)=false:=by simp;omega
   have g2:decide ((122:Int)<((s[k]'hp).toNat:Int))=false:=by simp;omega
   go_wp2;go_roundw;case rel=>exact⟨k+1,by omega,rfl,trivial⟩
   case measure=>simp[intOf];omega
  ·obtain rfl:k=s.size:=by omega
   have eH:=HL.o (s[0]'h0) (by simp[aE]);have Ti:(s[0]'h0).toNat<104\/(104<=(s[0]'h0).toNat/\(s[0]'h0).toNat<110)\/(110<=(s[0]'h0).toNat/\(s[0]'h0).toNat<117)\/117<=(s[0]'h0).toNat:=by omega
   have he:∀o,aA wr.heap.size wr (wr.alloc o):=λo=>(jg _ _).alloc (ji _) o;have HE:=Hd he;clear he;have dec:∀n:Int,n<=((s[0]'h0).toNat:Int)->decide (n<=((s[0]'h0).toNat:Int))=true:=λn h=>xdt h;have Gr:∀n:Int,((s[0]'h0).toNat:Int)<n->decide (n<=((s[0]'h0).toNat:Int))=false:=λn h=>xdf (by omega);have HS:=Hd (jd9 (s[0]'h0).toNat);rcases Ti with h|⟨h,h'⟩|⟨h,h'⟩|h
   ·have g1:=Gr 104 (by omega);have g2:=Gr 110 (by omega);have g3:=Gr 117 (by omega);have HS:=Hd (HS.trans (if_pos h));go_wp2;refine aD 4 ?_;rw[ai];go_wp2;rw[ai];go_wp2;rw[ai];go_wp2;rw[ai];go_wp2;go_ret;exact⟨by rw[HS.o];rfl,HE.o _⟩
   ·have g1:=dec 104 (by omega);have g2:=Gr 110 (by omega);have g3:=Gr 117 (by omega);have HS:=Hd (HS.trans ((if_neg (by omega)).trans (if_pos h')));go_wp2;refine aD 4 ?_;rw[ai];go_wp2;rw[ai];go_wp2;rw[ai];go_wp2;rw[ai];go_wp2;go_ret;exact⟨by rw[HS.o];rfl,HE.o _⟩
   ·have g1:=dec 104 (by omega);have g2:=dec 110 (by omega);have g3:=Gr 117 (by omega);have HS:=Hd (HS.trans ((if_neg (by omega)).trans ((if_neg (by omega)).trans (if_pos h'))));go_wp2;refine aD 4 ?_;rw[ai];go_wp2;rw[ai];go_wp2;rw[ai];go_wp2;rw[ai];go_wp2;go_ret;exact⟨by rw[HS.o];rfl,HE.o _⟩
   ·have g1:=dec 104 (by omega);have g2:=dec 110 (by omega);have g3:=dec 117 (by omega);have HS:=Hd (HS.trans ((if_neg (by omega)).trans ((if_neg (by omega)).trans (if_neg (by omega)))));go_wp2;refine aD 4 ?_;rw[ai];go_wp2;rw[ai];go_wp2;rw[ai];go_wp2;rw[ai];go_wp2;go_ret;exact⟨by rw[HS.o];rfl,HE.o _⟩
theorem q9i (s:ByteArray) (h0:0<s.size) (h8:s.size<=8) (hl:¬s.data.toList.all letter=true):aB prog 50 #[.string s] w (G6 (-1) w):=by
 have iP:decide ((s.size:Int)<1)=false:=by simp;omega
 have Cu:decide ((8:Int)<s.size)=false:=by simp;omega
 have HL:=Hd hl;clear hl;go_enter func50,ntmps50;go_wp2;go_loopw [3] (λi w'=>∃k:Nat,k<=s.size/\i=.int .i64 k/\w'=w/\Hid ((s.data.toList.take k).all letter=true)) (λi _=>s.size-(intOf i).toNat);case atStart=>exact⟨0,xzl _,rfl,rfl,Hd (by simp)⟩
 case round=>
  obtain⟨k,hk,rfl,rfl,HA⟩:=hrel;by_cases hp:k<s.size
  ·by_cases h1:(s[k]'hp).toNat<97
   ·have g1:decide (((s[k]'hp).toNat:Int)<97)=true:=by simp;omega
    go_wp2;go_ret;exact⟨rfl,jg _ _⟩
   ·have g1:decide (((s[k]'hp).toNat:Int)<97)=false:=by simp;omega
    by_cases h2:122<(s[k]'hp).toNat
    ·have g2:decide ((122:Int)<((s[k]'hp).toNat:Int))=true:=by simp;omega
     go_wp2;go_ret;exact⟨rfl,jg _ _⟩
    ·have g2:decide ((122:Int)<((s[k]'hp).toNat:Int))=false:=by simp;omega
     have eH:letter s[k]=true:=by simp[letter];omega
     have HN:Hid ((s.data.toList.take (k+1)).all letter=true):=Hd (by rw[Xg s k hp,HA.o,eH];rfl);clear eH;go_wp2;go_roundw;case rel=>exact⟨k+1,by omega,rfl,trivial,HN⟩
     case measure=>simp[intOf];omega
  ·exact absurd (by have e:=HA.o;rwa [bh (by simp;omega)]at e) HL.o
theorem Nf (s:ByteArray) (h:jD s.data.toList=false):aB prog 50 #[.string s] w (G6 (-1) w):=by
 by_cases h0:s.size=0\/8<s.size
 ·exact qz8 s h0
 ·refine q9i s (by omega) (by omega) λhl=>?_;have:jD s.data.toList=true:=by
   simp only[jD,bH,decide_eq_true_eq];exact⟨by simp;omega,by simp;omega,hl⟩
  rw[h]at this;cases this
end
structure uK (w:ac) (cl n:Nat) (db mb:Nat) (mv:Option Addr) (L:KV):Prop where
 d:w.cell? ⟨cl,1+n*3+1,none⟩=some (.pointer (some ⟨db,0,none⟩))
 v:w.cell? ⟨cl,1+n*3+2,none⟩=some (.pointer mv)
 m:w.cell? ⟨db,0,none⟩=some (.map (some mb))
 l:zk w mb L
theorem uK.block {cl:Nat} {mv:Option Addr} {L:KV} (h:uK w cl n db mb mv L) (k:∀b,b=cl\/b=db\/b=mb->w'.heap[b]?=w.heap[b]?):uK w' cl n db mb mv L:=
 ⟨(xcb (k _ (.inl rfl))).trans h.d,(xcb (k _ (.inl rfl))).trans h.v,(xcb (k _ (.inr (.inl rfl)))).trans h.m,h.l.block (k _ (.inr (.inr rfl)))⟩
theorem uK.lt {cl:Nat} {mv:Option Addr} {L:KV} (h:uK w cl n db mb mv L):cl<w.heap.size/\db<w.heap.size/\mb<w.heap.size:=
 ⟨xbl w _ h.d,xbl w _ h.m,h.l.lt⟩
theorem uK.below {cl:Nat} {mv:Option Addr} {L:KV} (h:uK w cl n db mb mv L) (k:aA w.heap.size w w'):uK w' cl n db mb mv L:=
 h.block λb hb=>k.block b (by have:=h.lt;rcases hb with rfl|rfl|rfl<;>omega)
def Qd (x:Int) (w:ac) (e:cF) (w':ac):Prop:=e=.returned (.int .i64 x)/\aA w.heap.size w w'
section
variable {w:ac} {cl db mb:Nat} {L:KV}
theorem qus (k v:ByteArray) (g:Bool) (h:jD k.data.toList=false) (hs:k.size<=bm):aB prog 40 #[.pointer (some ⟨cl,0,none⟩),.agg #[.string k,.string v,.bool g]] w (Qd 2 w):=by
 go_enter func40,ntmps40;go_wp2_with (go_at_call 41;refine(O9 _ _ h hs).mono ?_;rintro e w1 ⟨rfl,hb⟩)
 go_ret;exact⟨rfl,((jg _ _).alloc (ji _) _).trans (hb.mono (by simp))⟩
structure ChW (cb cl n db mb:Nat) (mv:Option Addr) (L:KV) (k v:ByteArray) (g:Bool) (w:ac):Prop where
 c0:w.cell? ⟨cb,0,none⟩=some (.string k)
 c1:w.cell? ⟨cb,1,none⟩=some (.string v)
 c2:w.cell? ⟨cb,2,none⟩=some (.bool g)
 d:w.cell? ⟨cl,1+n*3+1,none⟩=some (.pointer (some ⟨db,0,none⟩))
 v:w.cell? ⟨cl,1+n*3+2,none⟩=some (.pointer mv)
 m:w.cell? ⟨db,0,none⟩=some (.map (some mb))
 l:zk w mb L
theorem ChW.of {mv:Option Addr} {k v:ByteArray} {g:Bool} (hp:uK w cl n db mb mv L) (hb:aA (w.alloc (.cells #[.string k,.string v,.bool g] 87)).heap.size (w.alloc (.cells #[.string k,.string v,.bool g] 87)) w1):
  ChW w.heap.size cl n db mb mv L k v g w1/\aA w.heap.size w w1:=by
 have oH:aA w.heap.size w w1:=((jg _ _).alloc (ji _) _).trans (hb.mono (by simp));obtain⟨pd,pv,pm,pl⟩:=hp.below oH;exact⟨⟨(hb.cell (p:=⟨w.heap.size,0,none⟩) (by simp)).trans (by go_simp),(hb.cell (p:=⟨w.heap.size,1,none⟩) (by simp)).trans (by go_simp),(hb.cell (p:=⟨w.heap.size,2,none⟩) (by simp)).trans (by go_simp),pd,pv,pm,pl⟩,oH⟩
theorem ChW.below {mv:Option Addr} {k v:ByteArray} {g:Bool} (h:ChW cb cl n db mb mv L k v g w) (hb:aA w.heap.size w w1):ChW cb cl n db mb mv L k v g w1:=
 ⟨(hb.cell (xbl w _ h.c0)).trans h.c0,(hb.cell (xbl w _ h.c1)).trans h.c1,(hb.cell (xbl w _ h.c2)).trans h.c2,(hb.cell (xbl w _ h.d)).trans h.d,(hb.cell (xbl w _ h.v)).trans h.v,(hb.cell (xbl w _ h.m)).trans h.m,h.l.block (hb.block _ h.l.lt)⟩
theorem ChW.but {mv:Option Addr} {k v:ByteArray} {g:Bool} {L':KV} (h:ChW cb cl n db mb mv L k v g w) (hb:But (· =mb) w w1) (hm:zk w1 mb L'):ChW cb cl n db mb mv L' k v g w1:=by
 have ne:∀{b o:Nat} {x:aa},w.cell? ⟨b,o,none⟩=some x->b≠mb:=λ{b o x} hx e=>by
  obtain⟨es,ck,hb,_⟩:=h.l;subst e;unfold ag at hx;rw[hb]at hx;cases hx
 have cell:∀{b o:Nat} {x:aa},w.cell? ⟨b,o,none⟩=some x->w1.cell? ⟨b,o,none⟩=some x:=λhx=>(xcb (hb.keep _ (xbl w _ hx) (ne hx))).trans hx;exact⟨cell h.c0,cell h.c1,cell h.c2,cell h.d,cell h.v,cell h.m,hm⟩
theorem ChW.drew {mv:Option Addr} {k v:ByteArray} {g:Bool} (h:ChW cb cl n db mb mv L k v g w):ChW cb cl n db mb mv L k v g w.drew:=h.below (w1:=w.drew) ⟨rfl,rfl,rfl,ji _,λ_ _=>rfl⟩
theorem Kq {w:ac} {db mb:Nat} {L:KV} (hd:w.cell? ⟨db,0,none⟩=some (.map (some mb))) (hm:zk w mb L):aB prog 68 #[.pointer (some ⟨db,0,none⟩)] w λe w'=>e=.returned (.int .i64 L.length)/\w=w':=
 (jiw hd hm).mono λ_ _ h=>⟨h.1,h.2.symm⟩
def jbq (w:ac) (mb:Nat) (L:KV) (c:Int) (e:cF) (w':ac):Prop:=e=.returned (.int .i64 c)/\zk w' mb L/\But (· =mb) w w'
theorem q25 {mv:Option Addr} {W:ac} {k v:ByteArray} {g:Bool} {A B:Prop} (h:A/\B/\Hid (ChW W.heap.size cl n db mb mv L k v g w1/\aA W.heap.size W w1)) (hk:k.size<=bm):
  aB prog 42 #[.pointer (some ⟨db,0,none⟩),.string k] w1 λe w'=>(e=.returned (.tuple #[sv ((jh L k.data.toList).getD []),.bool (jh L k.data.toList).isSome]))/\ChW W.heap.size cl n db mb mv L k v g w'/\aA W.heap.size W w':=
 (Pz h.2.2.out.1.m h.2.2.out.1.l k hk).mono λe w' ⟨h1,h2⟩=>⟨h1,h.2.2.out.1.below h2,h.2.2.out.2.trans (h2.mono h.2.2.out.2.size)⟩
def pJ (L:KV) (k v:Bs) (g:Bool):Int:=if 12<v.length then 3 else if !g&&!(jh L k).isSome&&L.length==12 then 4 else if g&&!(jh L k).isSome then 6 else 0
def chL (L:KV) (k v:Bs) (g:Bool):KV:=if pJ L k v g=0 then(if g then mr L k else nP L k v)else L
theorem Kk {L:KV} {k v:Bs} {g:Bool} (h:12<v.length):pJ L k v g=3/\chL L k v g=L:=by
 have:pJ L k v g=3:=by unfold pJ;rw[if_pos h]
 exact⟨this,by unfold chL;rw[this];rfl⟩
theorem Kj {L:KV} {k v:Bs} {g:Bool} (h:¬12<v.length):
  (g=false->(jh L k).isSome=false->L.length=12->pJ L k v g=4/\chL L k v g=L)/\(g=false->((jh L k).isSome=true\/L.length≠12)->pJ L k v g=0/\chL L k v g=nP L k v)/\
  (g=true->(jh L k).isSome=false->pJ L k v g=6/\chL L k v g=L)/\(g=true->(jh L k).isSome=true->pJ L k v g=0/\chL L k v g=mr L k):=by
 unfold chL pJ;rw[if_neg h];refine⟨λh1 h2 h3=>?_,λh1 h2=>?_,λh1 h2=>?_,λh1 h2=>?_⟩
 ·subst h1;simp[h2,h3]
 ·subst h1;rcases h2 with h2|h2<;>simp[h2]
 ·subst h1;simp[h2]
 ·subst h1;simp[h2]
theorem qut (k v:ByteArray) (g:Bool) (n:Nat) (hn:n<4) (hk:jD k.data.toList=true) (lZ:jk k.data.toList=n) (jV:k.size<=bm) (hL:L.length<=12) (hp:uK w cl n db mb none L):
  aB prog 40 #[.pointer (some ⟨cl,0,none⟩),.agg #[.string k,.string v,.bool g]] w (jbq w mb (chL L k.data.toList v.data.toList g) (pJ L k.data.toList v.data.toList g)):=by
 have tq:((n:Int)<4):=by omega
 go_enter func40,ntmps40;go_wp2_with (go_at_call 41;refine(GR _ _ hk).mono ?_;rintro e w1 ⟨rfl,hb⟩;rw[lZ])
 obtain⟨kI,oH⟩:=ChW.of hp hb;clear hb hp;have JF:=Hd oH;have vX:=Hd kI;obtain⟨c0,c1,c2,pd,pv,pm,pl⟩:=id kI;clear oH kI pl;go_region_held3 (λw'=>w'.cell? ⟨cl,1+n*3+1,none⟩=some (.pointer (some ⟨db,0,none⟩))/\w'.cell? ⟨w.heap.size,0,none⟩=some (.string k)/\Hid (ChW w.heap.size cl n db mb none L k v g w'/\aA w.heap.size w w'))
  (first|exact⟨pd,c0,Hd ⟨vX.drew,JF.drew⟩⟩|exact⟨(jB.1).d,(jB.1).c0,jB⟩)
  (first|(go_at_call 42;refine(q25 (by assumption) jV).mono ?_;rintro e w2 ⟨rfl,kX⟩;have jB:=Hd kX;clear kX))
 obtain⟨has,gQ⟩:∃b,(jh L k.data.toList).isSome=b:=⟨_,rfl⟩
 rw[gQ];have HF:=Hd gQ;clear gQ;generalize sv ((jh L k.data.toList).getD [])=gv;obtain⟨e0,e1,e2,ed,ev,em,el⟩:=jB.1;have EL:=Hd el;have iC:=Hd (But.of_below (B:=(· =mb)) jB.2);clear el;by_cases iX:12<v.size
 ·have HE:=Hd (Kk (L:=L) (k:=k.data.toList) (g:=g) (v:=v.data.toList) (by simpa using iX));have g1:decide ((12:Int)<v.size)=true:=by simp;omega
  go_wp2;go_ret;exact⟨by rw[HE.1];rfl,by rw[HE.2];exact EL.o,iC.o⟩
 have HG:=Hd (Kj (L:=L) (k:=k.data.toList) (g:=g) (v:=v.data.toList) (by simpa using iX));rw[HF.o]at HG;have g1:decide ((12:Int)<v.size)=false:=by simp;omega
 cases g
 ·cases has
  ·by_cases jT:L.length=12
   ·have HE:=Hd (HG.1 rfl rfl jT);go_wp2_with (go_at_call 68;refine(Kq em EL.o).mono ?_;rintro e w' ⟨rfl,rfl⟩)
    go_ret;exact⟨by rw[HE.1];rfl,by rw[HE.2];exact EL.o,iC.o⟩
   ·have HE:=Hd (HG.2.1 rfl (.inr jT));go_wp2_with (go_at_call 68;refine(Kq em EL.o).mono ?_;rintro e w' ⟨rfl,rfl⟩)
    refine bw 5 (by kernel_rfl) (by kernel_rfl) ?_;change wpStill _ _ w2.drew (λa'=>wpList _ _ _ _ a' w2.drew) _ _;simp only[aV,bC,aW,bD];repeat still_step
    refine cx ?_;go_wp2_with (go_at_call 69;refine(GX (w:=w2.drew) em (EL.block rfl) (by omega) k v jV).mono ?_;rintro e w3 ⟨rfl,ru,gN⟩;have mM:=Hd (jB.1.drew.but gN ru);have oK:=Hd (iC.drew.trans gN);obtain⟨f0,f1,f2,fd,fv,fm,fl⟩:=mM.o;clear fl ru gN)
    go_ret;exact⟨by rw[HE.1];rfl,by rw[HE.2];exact mM.l,oK.o⟩
  ·have HE:=Hd (HG.2.1 rfl (.inl rfl));go_wp2;refine bw 5 (by kernel_rfl) (by kernel_rfl) ?_;change wpStill _ _ w2.drew (λa'=>wpList _ _ _ _ a' w2.drew) _ _;simp only[aV,bC,aW,bD];repeat still_step
   refine cx ?_;go_wp2_with (go_at_call 69;refine(GX (w:=w2.drew) em (EL.block rfl) (by omega) k v jV).mono ?_;rintro e w3 ⟨rfl,ru,gN⟩;have mM:=Hd (jB.1.drew.but gN ru);have oK:=Hd (iC.drew.trans gN);obtain⟨f0,f1,f2,fd,fv,fm,fl⟩:=mM.o;clear fl ru gN)
   go_ret;exact⟨by rw[HE.1];rfl,by rw[HE.2];exact mM.l,oK.o⟩
 ·cases has
  ·have HE:=Hd (HG.2.2.1 rfl rfl);go_wp2;go_ret;exact⟨by rw[HE.1];rfl,by rw[HE.2];exact EL.o,iC.o⟩
  ·have HE:=Hd (HG.2.2.2 rfl rfl);go_wp2;refine bw 5 (by kernel_rfl) (by kernel_rfl) ?_;change wpStill _ _ w2.drew (λa'=>wpList _ _ _ _ a' w2.drew) _ _;simp only[aV,bC,aW,bD];repeat still_step
   refine cx ?_;go_wp2_with (go_at_call 69;refine(NE (w:=w2.drew) em (EL.block rfl) k v jV).mono ?_;rintro e w3 ⟨rfl,ru,gN⟩;have mM:=Hd (jB.1.drew.but gN ru);have oK:=Hd (iC.drew.trans gN);obtain⟨f0,f1,f2,fd,fv,fm,fl⟩:=mM.o;clear fl ru gN)
   go_ret;exact⟨by rw[HE.1];rfl,by rw[HE.2];exact mM.l,oK.o⟩
end
structure Clu (w:ac) (cl:Nat) (db mb:Nat->Nat) (L:Nat->KV):Prop where
 p:∀i,i<4->∃mv,uK w cl i (db i) (mb i) mv (L i)
 ne:∀i j,i<4->j<4->mb i=mb j->i=j
 len:∀i,i<4->(L i).length<=12
def mh (L:Nat->KV) (n:Nat) (x:KV):Nat->KV:=λi=>if i=n then x else L i
theorem Ia (k:Bs):jk k<4:=by
 unfold jk shd;split
 ·decide
 ·split
  ·decide
  ·split<;>decide
theorem q7n {L:KV} {k v:Bs} {g:Bool} (h:L.length<=12):(chL L k v g).length<=12:=by
 unfold chL;split
 ·rename_i hc;split
  ·exact xlt (XZ L k) h
  ·rename_i hg;have hg:g=false:=by simpa using hg
   subst hg;by_cases hh:(jh L k).isSome=true
   ·exact xlt (q9b hh) h
   ·have hh:(jh L k).isSome=false:=by simpa using hh
    have:=jdq L k v;unfold pJ at hc;rw[hh]at hc;split at hc
    ·cases hc
    ·by_cases iy:L.length=12
     ·simp[iy]at hc
     ·omega
 ·exact h
section
variable {w w':ac} {cl:Nat} {db mb:Nat->Nat} {L:Nat->KV}
def Di (L:Nat->KV) (k:Bs):Bs:=if jD k then(jh (L (jk k)) k).getD []else[]
def Dj (L:Nat->KV) (k:Bs):Int:=if jD k then(if(jh (L (jk k)) k).isSome then 0 else 6)else 2
def Ht (w:ac) (v:Bs) (c:Int) (e:cF) (w':ac):Prop:=e=.returned (.tuple #[sv v,.int .i64 c])/\aA w.heap.size w w'
theorem q8b (h:Clu w cl db mb L) (k:ByteArray) (hs:k.size<=bm):
  aB prog 19 #[.pointer (some ⟨cl,0,none⟩),.string k] w (Ht w (Di L k.data.toList) (Dj L k.data.toList)):=by
 have HH:=Hd h;clear h;cases hk:jD k.data.toList
 ·have HK:=Hd hk;clear hk;go_enter func19,ntmps19;go_wp2_with (go_at_call 41;refine(O9 _ _ HK.o hs).mono ?_;rintro e w1 ⟨rfl,hb⟩)
  go_ret2;unfold Di Dj;rw[HK.o];exact⟨rfl,hb⟩
 ·have HK:=Hd hk;clear hk;have hn:=Ia k.data.toList;obtain⟨mv,hp⟩:=HH.p _ hn;have HG:Hid (Di L k.data.toList=(jh (L (jk k.data.toList)) k.data.toList).getD []/\Dj L k.data.toList=if(jh (L (jk k.data.toList)) k.data.toList).isSome then 0 else 6):=by
   unfold Di Dj;rw[HK.o];exact⟨rfl,rfl⟩
  generalize uM:jk k.data.toList=n at*;have HN:=Hd uM;have HP:=Hd hp;obtain⟨x,hx⟩:∃x,jh (L n) k.data.toList=x:=⟨_,rfl⟩
  rw[hx]at HG;have HX:=Hd hx;clear hp uM hx;have tq:((n:Int)<4):=by omega
  cases x;all_goals
   go_enter func19,ntmps19;go_wp2_with (first
    |(go_at_call 41;refine(GR _ _ HK.o).mono ?_;rintro e w1 ⟨rfl,hb⟩;rw[HN.o];have HP1:=Hd (HP.below hb);have lH:=Hd hb;obtain⟨pd,pv,pm,pl⟩:=HP1.o;clear hb pl)
    |(go_at_call 42;refine(Pz pm HP1.l k hs).mono ?_;rintro e w2 ⟨rfl,gq⟩;rw[HX.o];have iC:=Hd (lH.trans (gq.mono lH.size));clear gq))
   go_ret2;exact⟨by rw[HG.1,HG.2];rfl,iC.o⟩
end
structure Mdl (w:ac) (ml sb:Nat) (lv:Nat->aa) (mp:Nat->Option Addr) (L:Nat->KV):Prop where
 s:∃cap,w.cell? ⟨ml,1,none⟩=some (.slice (some ⟨sb,0,none⟩) 4 cap)
 t:∃mc,w.heap[ml]?=some (.cells mc 101 (0,0))
 b:∃cur,w.heap[sb]?=some (.cells cur 104 (0,0))/\∀i,i<4->cur[i*3+1]?=some (lv i)/\cur[i*3+2]?=some (.pointer (mp i))/\∃o:Int,cur[i*3]?=some (.int .i64 o)
 r:∀i,i<4->zy w 0 (lv i) (L i)
def qx {α:Type} (L:Nat->α) (n:Nat) (x:α):Nat->α:=λi=>if i=n then x else L i
theorem jc {α:Type} (L:Nat->α) (n:Nat) (x:α):qx L n x n=x:=by unfold qx;rw[if_pos rfl]
theorem q9 {α:Type} (L:Nat->α) (x:α) (h:i≠n):qx L n x i=L i:=by unfold qx;rw[if_neg h]
section
variable {w w':ac} {ml sb:Nat} {lv:Nat->aa} {mp:Nat->Option Addr} {L:Nat->KV}
theorem Mdl.lts (h:Mdl w ml sb lv mp L):ml<w.heap.size/\sb<w.heap.size:=by
 obtain⟨mc,h1⟩:=h.t;obtain⟨cur,h2,_⟩:=h.b;exact⟨(zi h1).1,(zi h2).1⟩
theorem Mdl.cl (h:Mdl w ml sb lv mp L) (hi:i<4):w.cell? ⟨sb,i*3+1,none⟩=some (lv i)/\w.cell? ⟨sb,i*3+2,none⟩=some (.pointer (mp i))/\w.frozen? ⟨sb,i*3+1,none⟩=false:=by
 obtain⟨cur,h1,h2⟩:=h.b;obtain⟨h3,h4,_⟩:=h2 i hi;exact⟨by simp[ag,h1,h3],by simp[ag,h1,h4],by simp[aC,h1]⟩
theorem Mdl.owner (h:Mdl w ml sb lv mp L) (hi:i<4):∃o:Int,w.cell? ⟨sb,i*3,none⟩=some (.int .i64 o):=by
 obtain⟨cur,h1,h2⟩:=h.b;obtain⟨_,_,o,h3⟩:=h2 i hi;exact⟨o,by simp[ag,h1,h3]⟩
theorem zy.block {v:aa} {l:KV} (h:zy w 0 v l) (k:∀g,v.ownBlock=some g->w'.heap[g]?=w.heap[g]?):zy w' 0 v l:=by
 refine⟨⟨h.1.1,h.1.2.imp id ?_⟩,h.2.block k⟩;rintro⟨g,cap,cur,rfl,h1,h2,h3⟩;exact⟨g,cap,cur,rfl,h1,(k g rfl).trans h2,h3⟩
theorem zy.ty {v:aa} {l:KV} (h:zy w b v l) (hg:v.ownBlock=some g):∃cur,w.heap[g]?=some (.cells cur 74 (0,0)):=by
 rcases h.1.2 with⟨rfl,_⟩|⟨g',cap,cur,rfl,_,h2,_⟩
 ·cases hg
 ·cases hg;exact⟨cur,h2⟩
theorem Mdl.below (h:Mdl w ml sb lv mp L) (hb:aA w.heap.size w w'):Mdl w' ml sb lv mp L:=by
 obtain⟨l1,l2⟩:=h.lts;obtain⟨cap,h1⟩:=h.s;obtain⟨mc,h2⟩:=h.t;obtain⟨cur,h3,h4⟩:=h.b;exact⟨⟨cap,(hb.cell l1).trans h1⟩,⟨mc,(hb.block _ l1).trans h2⟩,⟨cur,(hb.block _ l2).trans h3,h4⟩,λi hi=>(h.r i hi).block λg hg=>hb.block g (let⟨c,e⟩:=(h.r i hi).ty hg;(zi e).1)⟩
theorem q2o {v:aa} {l:KV} (hr:zy w 0 v l) (hl:l.length<=1073741822) (iR:jr l) (k x:ByteArray) (g:Bool) (hg:g=true->oM l k.data.toList=true):
  aB prog 52 #[v,.agg #[.string k,.string x,.bool g]] w (Hu w (if g then mr l k.data.toList else nP l k.data.toList x.data.toList)):=by
 obtain⟨a1,a2,a3,a4,a5⟩:=Ce iR k.data.toList;have e:(if g then mr l k.data.toList else nP l k.data.toList x.data.toList)=DF l k.data.toList x.data.toList g:=by
  cases g
  ·exact(a5 _).symm
  ·exact(a4 _).symm
 rw[e];rcases hr.1.2 with⟨rfl,hz⟩|⟨b,cap,cur,rfl,_,_,hc,_⟩
 ·obtain rfl:l=[]:=aO hz;cases g
  ·exact Vp k x
  ·have:=hg rfl;simp[oM]at this
 ·refine Wq k x g hr hc hl rfl rfl a1 λh=>?_;rw[a2]at h;obtain⟨v,hv⟩:=Option.isSome_iff_exists.1 h;exact(ax.1 (a3 v hv)).1
end
theorem But.setCell {B:Nat->Prop} (h:But B w w') (hb:B b) (o:Nat) (v:aa):But B w (w'.setCell ⟨b,o,none⟩ v):=
 ⟨by simpa using h.size,λk hk hn=>(xho w' _ k v λe=>hn (by subst e;exact hb)).trans (h.keep k hk hn),h.os,h.output⟩
section
variable {w:ac} {ml sb:Nat} {lv:Nat->aa} {mp:Nat->Option Addr} {L:Nat->KV}
theorem AZ {α:Type} (L:Nat->α) (n:Nat):qx L n (L n)=L:=by
 funext i;unfold qx;split
 ·rename_i h;rw[h]
 ·rfl
theorem D5 {v:aa} {l:KV} (h:zy w b v l):∃sa cp,v=.slice sa l.length cp:=by
 rcases h.1.2 with⟨rfl,hz⟩|⟨g,cap,cur,rfl,_⟩
 ·exact⟨none,0,by rw[hz]⟩
 ·exact⟨_,_,rfl⟩
theorem zy.to0 {v:aa} {l:KV} (h:zy w b v l):zy w 0 v l:=AB h.1 h.2 (xzl _) rfl
theorem qv9 (k v:ByteArray) (g:Bool) (h:jD k.data.toList=false):aB prog 24 #[.pointer (some ⟨ml,0,none⟩),.agg #[.string k,.string v,.bool g]] w (Qd 2 w):=by
 go_enter func24,ntmps24;go_wp2_with (go_at_call 50;refine(Nf _ h).mono ?_;rintro e w1 ⟨rfl,hb⟩)
 go_ret;exact⟨rfl,((jg _ _).alloc (ji _) _).trans (hb.mono (by simp))⟩
end
section
variable {w:ac} {ml sb:Nat} {lv:Nat->aa} {mp:Nat->Option Addr} {L:Nat->KV}
theorem Yb {W:ac} {k:ByteArray} {v:aa} (h:Mdl w1 ml sb lv mp L) (hb:aA W.heap.size W w1) (hn:n<4) (hv:lv n=v) (hL:(L n).length<=12):
  aB prog 51 #[v,.string k] w1 λe w'=>(e=.returned (.tuple #[.int .i64 (pF (L n) k.data.toList),.bool (oM (L n) k.data.toList)]))/\Mdl w' ml sb lv mp L/\aA W.heap.size W w':=by
 subst hv;exact(Ny (h.r n hn).1 (by omega) k).mono λe w' ⟨h1,h2⟩=>⟨h1,h.below h2,hb.trans (h2.mono hb.size)⟩
theorem q9g (k:ByteArray) (h:jD k.data.toList=false):aB prog 26 #[.pointer (some ⟨ml,0,none⟩),.string k] w (Ht w [] 2):=by
 go_enter func26,ntmps26;go_wp2_with (go_at_call 50;refine(Nf _ h).mono ?_;rintro e w1 ⟨rfl,hb⟩)
 go_ret2;exact⟨rfl,hb⟩
theorem qz5 (k:ByteArray) (n:Nat) (hn:n<4) (hk:jD k.data.toList=true) (lZ:jk k.data.toList=n) (hL:(L n).length<=12) (hm:Mdl w ml sb lv mp L) (hh:oM (L n) k.data.toList=false):
  aB prog 26 #[.pointer (some ⟨ml,0,none⟩),.string k] w (Ht w [] 6):=by
 have tq:((n:Int)<4):=by omega
 have HM:=Hd hm;have HH:=Hd hh;clear hm hh;go_enter func26,ntmps26;go_wp2_with (first
  |(go_at_call 50;refine(FD _ hk).mono ?_;rintro e w1 ⟨rfl,hb⟩;rw[lZ];have M1:=Hd (HM.below hb);have B1:=Hd hb;obtain⟨cap,ms⟩:=M1.s;obtain⟨m1,m2,m3⟩:=M1.cl hn;clear hb)
  |(go_at_call 51;refine(Yb M1.o B1.o hn rfl hL).mono ?_;rintro e w2 ⟨rfl,h2⟩;rw[HH.o];have H2:=Hd h2;clear h2))
 go_ret2;exact⟨rfl,H2.2⟩
theorem qz6 (k:ByteArray) (n:Nat) (hn:n<4) (hk:jD k.data.toList=true) (lZ:jk k.data.toList=n) (hL:(L n).length<=12) (hm:Mdl w ml sb lv mp L) (hh:oM (L n) k.data.toList=true) (x:Bs) (hx:(L n)[pF (L n) k.data.toList]?=some (k.data.toList,x)):
  aB prog 26 #[.pointer (some ⟨ml,0,none⟩),.string k] w (Ht w x 0):=by
 have tq:((n:Int)<4):=by omega
 have eH:=(ax.1 hx).1;obtain⟨ix,wS⟩:∃i,pF (L n) k.data.toList=i:=⟨_,rfl⟩
 obtain⟨g,cp,hv⟩:∃g cp,lv n=.slice (some ⟨g,0,none⟩) (L n).length cp:=by
  rcases(hm.r n hn).1.2 with⟨_,hz⟩|⟨g,cap,cur,h,_⟩
  ·omega
  ·exact⟨g,cap,h⟩
 have hc:∀w',aA w.heap.size w w'->w'.cell? ⟨g,ix*2+1,none⟩=some (sv x):=λw' hb=>by
  have h1:=(flat_get (L n) _ _ hx).2;have h2:=((hm.below hb).r n hn).1.cells (g:=g) (by rw[hv];rfl) _ _ h1;rw[aq,aG,wS]at h2;exact h2
 rw[wS]at eH;have HM:=Hd hm;have HH:=Hd hh;have HV:=Hd hv;have HC:=Hd hc;have HI:=Hd wS;have HS:Hid (sv x=.string ⟨x.toArray⟩):=Hd rfl;generalize Y9:sv x=svx at*;unfold sv at Y9;subst Y9;clear hm hh hv hc wS hx;go_enter func26,ntmps26;go_wp2_with (first
  |(go_at_call 50;refine(FD _ hk).mono ?_;rintro e w1 ⟨rfl,hb⟩;rw[lZ];have M1:=Hd (HM.below hb);have B1:=Hd hb;obtain⟨cap,ms⟩:=M1.s;have m1:=(M1.cl hn).1;rw[HV.o]at m1;clear hb)
  |(go_at_call 51;refine(Yb M1.o B1.o hn HV.o hL).mono ?_;rintro e w2 ⟨rfl,h2⟩;rw[HH.o,HI.o];have H2:=Hd h2;obtain⟨Tq,ms2⟩:=H2.1.s;have m2:=(H2.1.cl hn).1;rw[HV.o]at m2;have c2:=HC.o _ H2.2;clear h2))
 go_ret2;exact⟨rfl,H2.2⟩
theorem jdw (k:ByteArray) (hL:∀i,i<4->(L i).length<=12) (iR:∀i,i<4->jr (L i)) (hm:Mdl w ml sb lv mp L):
  aB prog 26 #[.pointer (some ⟨ml,0,none⟩),.string k] w (Ht w (Di L k.data.toList) (Dj L k.data.toList)):=by
 unfold Di Dj;cases hk:jD k.data.toList
 ·exact q9g k hk
 ·have hn:=Ia k.data.toList;obtain⟨a1,a2,a3,_⟩:=Ce (iR _ hn) k.data.toList;cases hx:jh (L (jk k.data.toList)) k.data.toList with
  |none=>exact qz5 k _ hn hk rfl (hL _ hn) hm (by rw[a2,hx];rfl)
  |some x=>exact qz6 k _ hn hk rfl (hL _ hn) hm (by rw[a2,hx];rfl) x (a3 x hx)
end
def SS (x:Nat->aa):Array aa:=#[x 0,x 1,x 2,x 3,x 4,x 5,x 6,x 7,x 8,x 9,x 10,x 11,x 12,x 13,x 14,x 15,x 16,x 17,x 18,x 19,x 20,x 21,x 22,x 23,x 24,x 25,x 26,x 27,x 28,x 29,x 30,x 31,x 32,x 33,x 34,x 35,x 36,x 37,x 38,x 39,x 40,x 41,x 42,x 43,x 44,x 45,x 46,x 47,x 48,x 49,x 50,x 51,x 52,x 53,x 54,x 55,x 56,x 57,x 58,x 59,x 60,x 61,x 62,x 63,x 64,x 65,x 66,x 67,x 68,x 69,x 70,x 71,x 72,x 73,x 74,x 75,x 76,x 77,x 78,x 79,x 80,x 81,x 82,x 83,x 84,x 85,x 86,x 87,x 88,x 89,x 90,x 91,x 92,x 93,x 94,x 95,x 96,x 97,x 98,x 99,x 100,x 101,x 102,x 103,x 104,x 105,x 106,x 107,x 108,x 109,x 110,x 111,x 112,x 113,x 114,x 115,x 116,x 117,x 118,x 119,x 120,x 121,x 122,x 123,x 124,x 125,x 126,x 127,x 128,x 129,x 130,x 131,x 132,x 133,x 134,x 135,x 136,x 137,x 138,x 139,x 140,x 141,x 142,x 143,x 144,x 145,x 146,x 147,x 148,x 149,x 150,x 151,x 152,x 153,x 154,x 155,x 156,x 157,x 158,x 159,x 160,x 161,x 162,x 163,x 164,x 165,x 166,x 167,x 168,x 169,x 170,x 171,x 172,x 173,x 174,x 175,x 176,x 177,x 178,x 179,x 180,x 181,x 182,x 183,x 184,x 185,x 186,x 187,x 188,x 189,x 190,x 191,x 192,x 193,x 194,x 195,x 196,x 197,x 198,x 199,x 200,x 201,x 202,x 203,x 204,x 205,x 206,x 207,x 208,x 209,x 210,x 211,x 212,x 213,x 214,x 215,x 216,x 217,x 218,x 219,x 220,x 221,x 222,x 223]
def upd (x:Nat->aa) (j:Nat) (v:aa):Nat->aa:=λi=>if i=j then v else x i
theorem qp {x:Nat->aa} {v:aa} (h:x j=v):∃y,x=upd y j v:=⟨x,by funext i;unfold upd;split<;>simp_all⟩
def hd1:Code->Code
 |.seq a _=>a
 |c=>c
def tl1:Code->Code
 |.seq _ b=>b
 |_=>.skip
noncomputable def tB:Code:=(Tryz.f15.body).getD .skip
noncomputable def tO:Code:=hd1 tB
noncomputable def tN:Code:=hd1 (tl1 tB)
noncomputable def tEm:Code:=hd1 (tl1 (tl1 tB))
noncomputable def tP:Code:=hd1 (tl1 (tl1 (tl1 tB)))
noncomputable def tM:Code:=tl1 (tl1 (tl1 (tl1 tB)))
structure OpV where
 k:Int
 a:Int
 b:Int
 c:Int
 d:Int
 e:Int
 f:Int
 s:ByteArray
 t:ByteArray
 u:ByteArray
def OpV.cells (o:OpV):Array aa:=#[.int .i64 o.k,.int .i64 o.a,.int .i64 o.b,.int .i64 o.c,.int .i64 o.d,.int .i64 o.e,.int .i64 o.f,.string o.s,.string o.t,.string o.u]
section
variable {x:Nat->aa} {w:ac} {Q:Exit->Act->ac->Prop} {o:OpV} {W ob:Nat}
theorem jj2 (h1:x 1=.agg o.cells) (h:Q .normal ⟨SS (upd (upd x 3 (.pointer (some ⟨w.heap.size,0,none⟩))) 4 (.bool false)),[]⟩ (w.alloc (.cells o.cells 30))):Code.wp prog tO Q ⟨SS x,[]⟩ w:=by
 obtain⟨x,rfl⟩:=qp h1;clear h1;unfold tO tB SS;simp only[Tryz.f15,Option.getD,hd1,upd,Nat.reduceEqDiff,if_true,if_false];unfold OpV.cells at*;go_wp2;exact h
def sj (R:ac->Prop):Exit->Act->ac->Prop
 |.ret,a,w=>a.tmps.getD 4 aK=.bool true/\a.defers=[]/\R w
 |_,_,_=>False
end
end Go.Proofs.YtkpekiajdlolnabGreat
namespace Go.Proofs.YtkpekiajdlolnabGreat.Ph
open Go.Conc Go.ConcN Go.RowKit Go.Maps Go.Conc.Lib Go Sim
abbrev fT:cn:=15
def bT:bg:=base fT
theorem But.same' {B:Nat->Prop} {wc:ac} (s:Same w wc):But B w wc:=⟨by rw[s.heap];exact ji _,λk _ _=>by rw[s.heap],s.os,s.output⟩
structure OpV.Ok (o:OpV):Prop where
 k: -9223372036854775808<=o.k/\o.k<=9223372036854775807
 a: -9223372036854775808<=o.a/\o.a<=9223372036854775807
 b: -9223372036854775808<=o.b/\o.b<=9223372036854775807
 c: -9223372036854775808<=o.c/\o.c<=9223372036854775807
 d: -9223372036854775808<=o.d/\o.d<=9223372036854775807
 e: -9223372036854775808<=o.e/\o.e<=9223372036854775807
 f: -9223372036854775808<=o.f/\o.f<=9223372036854775807
 s:o.s.size<=140737488355328
 t:o.t.size<=140737488355328
 u:o.u.size<=140737488355328
theorem OpV.Ok.s' {o:OpV} (h:OpV.Ok o):o.s.size<=bm:=by have:=h.s;unfold bm;omega
def lay (n:Nat) (x:Nat->aa):Array aa:=((aw n).map x).toArray
section
variable {n j:Nat} {x:Nat->aa} {v:aa}
theorem KD (h:j<n):(lay n x)[j]?=some (x j):=by simp[lay,h]
theorem Ol (h:j<n):(lay n x).getD j aK=x j:=by
 rw[ak,KD h];rfl
theorem xH:(lay n x).setIfInBounds j v=lay n (upd x j v):=by
 apply dw
 ·simp[lay]
 ·intro i h1 h2;simp only[lay,Array.size_setIfInBounds,List.size_toArray,bB,List.length_range]at h1 h2;rw[Array.getElem_setIfInBounds]
  ·simp only[lay,upd,List.getElem_toArray,List.getElem_map,List.getElem_range];by_cases e:j=i
   ·rw[if_pos e,if_pos e.symm]
   ·rw[if_neg e,if_neg λh=>e h.symm]
  ·simpa[lay]using h1
theorem DC {t:Array aa} (h:t.size=n):lay n (λi=>t.getD i aK)=t:=by
 apply dw
 ·simp[lay,h]
 ·intro i h1 h2;simp only[lay,List.getElem_toArray,List.getElem_map,List.getElem_range];rw[ak,Array.getElem?_eq_getElem h2];rfl
abbrev evx (n:Nat) (x:Nat->aa):bJ->aa:=(bK (lay n x) []).eval
theorem FI (h:j<n):evx n x (.tmp j)=x j:=Ol h
theorem tmp {n j:Nat} {x:Nat->aa} {v:aa} (h:j<n) (e:x j=v):evx n x (.tmp j)=v:=(FI h).trans e
theorem qy {n j:Nat} {x:Nat->aa} {v:aa} (e:x j=v) (h:j<n:=by decide):evx n x (.tmp j)=v:=tmp h e
end
def Pure (e:bJ->aa) (o:Oper) (v:aa):Prop:= ∀w,(ae e o).run prog w=.ok (.value v) w/\(ae e o).events prog w #[]=#[]
section
variable {e:bJ->aa} {o:Oper} {a b c:bJ} {v:aa} {m n:Int} {t u:Bool} {ty:aI}
theorem Pure.move (h:o.op=.move a) (hv:e a=v):Pure e o v:=λw=>by unfold ae;constructor<;>simp[go_sem,h,hv]
theorem Pure.assign (h:o.op=.assign a) (hv:e a=v):Pure e o v:=λw=>by unfold ae;constructor<;>simp[go_sem,h,hv]
theorem Pure.pick (h:o.op=.pick c a b) (hc:e c=.bool t) (hv:(if t then e a else e b)=v):Pure e o v:=λw=>by
 unfold ae;subst hv;cases t<;>constructor<;>simp[go_sem,h,hc]
theorem Pure.Ar (h:o.op=.pick c a b) (hc:e c=.bool true) (hv:e a=v):Pure e o v:=Pure.pick h hc (by simpa using hv)
theorem Pure.wH (h:o.op=.pick c a b) (hc:e c=.bool false) (hv:e b=v):Pure e o v:=Pure.pick h hc (by simpa using hv)
theorem Pure.lss (h:o.op=.binOp .lss 3 a b 3) (ha:e a=.int .i64 m) (hb:e b=.int .i64 n) (ht:decide (m<n)=t):Pure e o (.bool t):=λw=>by
 unfold ae;subst ht;constructor<;>simp[go_sem,h,ha,hb]
theorem Pure.gtr (h:o.op=.binOp .gtr 3 a b 3) (ha:e a=.int .i64 m) (hb:e b=.int .i64 n) (ht:decide (n<m)=t):Pure e o (.bool t):=λw=>by
 unfold ae;subst ht;constructor<;>simp[go_sem,h,ha,hb]
theorem Pure.leq (h:o.op=.binOp .leq 3 a b 3) (ha:e a=.int .i64 m) (hb:e b=.int .i64 n) (ht:decide (m<=n)=t):Pure e o (.bool t):=λw=>by
 unfold ae;subst ht;constructor<;>simp[go_sem,h,ha,hb]
theorem Pure.eql (h:o.op=.binOp .eql 3 a b 3) (ha:e a=.int .i64 m) (hb:e b=.int .i64 n) (ht:(m==n)=t):Pure e o (.bool t):=λw=>by
 unfold ae;subst ht;constructor<;>simp[go_sem,h,ha,hb]
theorem Pure.neq (h:o.op=.binOp .neq 3 a b 3) (ha:e a=.int .i64 m) (hb:e b=.int .i64 n) (ht:(m !=n)=t):Pure e o (.bool t):=λw=>by
 unfold ae;subst ht;constructor<;>simp[go_sem,h,ha,hb]
theorem Pure.add (h:o.op=.binOp .add 3 a b 3) (ha:e a=.int .i64 m) (hb:e b=.int .i64 n) (h1: -9223372036854775808<=m+n) (h2:m+n<=9223372036854775807):Pure e o (.int .i64 (m+n)):=λw=>by
 have hw:IntKind.i64.wrap (m+n)=m+n:=by rw[IntKind.wrap_i64];omega
 unfold ae;constructor<;>simp[go_sem,h,ha,hb,hw]
theorem Pure.not (h:o.op=.unOp .not 4 a) (ha:e a=.bool t) (ht:(!t)=u):Pure e o (.bool u):=λw=>by
 unfold ae;subst ht;constructor<;>simp[go_sem,h,ha]
end
def ek (l:List (Nat×aa)):bJ->aa
 |.tmp j=>(l.lookup j).getD aK
 |.const v=>v
 |_=>aK
theorem XY:∀(l:List (Nat×aa)) (j:Nat),(l.lookup j).getD aK=aK\/∃p∈l,(l.lookup j).getD aK=p.2
 |[],j=>.inl rfl
 |p::l,j=>by
  obtain⟨a,v⟩:=p;rw[List.lookup_cons];by_cases e:j==a
  ·rw[e];exact .inr ⟨_,.head _,rfl⟩
  ·simp only[Bool.not_eq_true]at e;rw[e];rcases XY l j with h|⟨p,h1,h2⟩
   ·exact .inl h
   ·exact .inr ⟨p,.tail _ h1,h2⟩
theorem GJ {l:List (Nat×aa)} (h:∀p∈l,VR XG.F ρ p.2 p.2):EvR XG.F fb ρ (ek l) (ek l):=by
 refine⟨λx hx=>?_,λ_=>rfl⟩;cases x with
 |tmp j=>
  rcases XY l j with e|⟨p,h1,e⟩
  ·show VR XG.F ρ ((l.lookup j).getD aK) _;rw[show(ek l (.tmp j))=aK from e];rw[e];exact Av
  ·show VR XG.F ρ ((l.lookup j).getD aK) (ek l (.tmp j));rw[show(ek l (.tmp j))=p.2 from e];rw[e];exact h p h1
 |const v=>exact Hw (λ_ h=>h) _ hx
 |_=>exact Av
section
variable {N:Blocks} {kv:List aa} {cs eX:List bg} {w:ac} {Z:bg->ac->Prop} {b:bg} {k:List Item} {n i j:Nat} {x:Nat->aa} {ops:Array Oper} {td:List Nat} {o:Oper}
theorem qb {y:Nat->Option Bool} (h:o.guard=none):ah o y=true:=by unfold ah;rw[h]
theorem qd {j:Nat} {t' r:Bool} {og:Oper} (h:o.guard=some (g,t)) (hg:ops[g]?=some og) (hd:og.dst=some j) (hj:j<n) (hx:x j=.bool t') (hr:(t'==t)=r):ah o (aJ ops (lay n x))=r:=by
 unfold ah;rw[h];have:aJ ops (lay n x) g=some t':=by
  unfold aJ;rw[hg];simp only[Option.bind_some,hd,KD hj,hx]
 simp only[this];subst hr;cases t<;>cases t'<;>rfl
theorem qf.bv (gB:blG b.fn=true) (hk:b.kind≠.early) (v:aa) (ho:ops[i]?=some o) (hd:o.dst=some j) (hw:ah o (aJ ops (lay n x))=true) (hr:Pure (evx n x) o v)
  (nx:qf N kv cs (b.at ⟨lay n (upd x j v),[]⟩ (.inRegion ops td::k)) w eX Z):qf N kv cs (b.at ⟨lay n x,[]⟩ (.inRegion ops (i::td)::k)) w eX Z:=by
 refine qf.val gB hk v ho hw hr ?_;rw[hd];show qf N kv cs (b.at ⟨(lay n x).setIfInBounds j v,[]⟩ _) w eX Z;rw[xH];exact nx
theorem qf.bu (gB:blG b.fn=true) (ho:ops[i]?=some o) (hd:o.dst=some j) (hw:ah o (aJ ops (lay n x))=false)
  (nx:qf N kv cs (b.at ⟨lay n (upd x j aK),[]⟩ (.inRegion ops td::k)) w eX Z):qf N kv cs (b.at ⟨lay n x,[]⟩ (.inRegion ops (i::td)::k)) w eX Z:=by
 refine qf.unwanted ho hw ?_;rw[hd];show qf N kv cs (b.at ⟨(lay n x).setIfInBounds j aK,[]⟩ _) w eX Z;rw[xH];exact nx
theorem qf.vJ {c:Nat} {p q:Code} (hc:c<n) (h:x c=.bool t) (nx:qf N kv cs (b.at ⟨lay n x,[]⟩ (.code (if t then p else q)::k)) w eX Z):qf N kv cs (b.at ⟨lay n x,[]⟩ (.code (.cond (.tmp c) p q)::k)) w eX Z:=
 qf.cond (tmp hc h) nx
theorem q4v {o:Oper} {w:ac} (fH:kE XG.P XG.P' fb true o=true) (he:EvR XG.F fb ρ e e) (hw:WR XG ρ w w) (hr:(ae e o).run XG.P w=.ok .skip w1):
  ∃ρ1,ρ.le ρ1/\WR XG ρ1 w1 w1/\oO (rng ρ) (own XG ρ) w (rng ρ1) (own XG ρ1) w1 ((ae e o).events XG.P w #[]):=by
 have hs:=SS.execOp yX.ok true yX.wrs o fH e e he;obtain⟨ρ1,a',gy,gD,h1,h2,h3,h4,h5,h6,h7⟩:=hs.1 w w _ w1 #[] hw hr;rw[show XG.P'=XG.P from rfl]at h1;have e1:=congrArg Prod.fst h1;rw[Sem.runT_fst,hr]at e1;have e1:(Result.ok Next.skip w1:Result Next)=.ok a' gy:=e1;injection e1 with ea ew;subst ea;subst ew;have ee:(ae e o).events XG.P w #[]=gD:=by
  have:=congrArg Prod.snd h1;simpa[Sem.runT_eq]using this
 exact⟨ρ1,h3.le,h2,by rw[ee];exact F5 hw h3 h2 h5⟩
theorem qf.jb6 {a:Act} {R:ac->Prop} (gB:blG b.fn=true) (hk:b.kind≠.early) (ho:ops[i]?=some o) (fH:kE XG.P XG.P' fb true o=true) (hw:ah o (aJ ops a.tmps)=true)
  (gZ:ae a.eval o=ae e o) (he:∀ρ,(∀v∈kv,VR XG.F ρ v v)->EvR XG.F fb ρ e e) (hr:∀wc,Same w wc->∃w1,(ae e o).run XG.P wc=.ok .skip w1/\R w1/\wc.heap.size<=w1.heap.size)
  (nx:∀w1,R w1->qf N kv cs (b.at (a.put o.dst aK) (.inRegion ops td::k)) w1 eX Z):qf N kv cs (b.at a (.inRegion ops (i::td)::k)) w eX Z:=λwc s gs sl t SB ρ q hc hN hK=>by
 have key:∀d,∃w1,(ae e o).run XG.P (wc.at d)=.ok .skip w1/\R w1/\wc.heap.size<=w1.heap.size:=λd=>hr (wc.at d) (s.trans (Same.at wc d));have qY:∀d,WR XG ρ (wc.at d) (wc.at d):=λd=>⟨hc.wr.fn,hc.wr.inj,hc.wr.heap,λ_ _=>rfl,hc.wr.sh⟩
 have hst:∀d w1,(ae e o).run XG.P (wc.at d)=.ok .skip w1->stepG XG.P true (G (b.at a (.inRegion ops (i::td)::k)) cs) (wc.at d)=.go (G (b.at (a.put o.dst aK) (.inRegion ops td::k)) cs) w1 _:=λd w1 h=>
  stepG_none (P:=XG.P) (main:=true) (b:=b) (k:=k) (cs:=cs) (rest:=td) (a:=a) (w:=wc.at d) ho hw hk (by rw[gZ];exact h)
 have step:∀d w1,(ae e o).run XG.P (wc.at d)=.ok .skip w1->
   ∃ρ1,ρ.le ρ1/\WR XG ρ1 w1 w1/\oO (rng ρ) (own XG ρ) (wc.at d) (rng ρ1) (own XG ρ1) w1 ((ae e o).events XG.P (wc.at d) #[]):=λd w1 h=>q4v fH (he ρ hK) (qY d) h
 have qN:∀(d:Nat) (w1:ac) (ρ1:Rel) (es:Array Event),oO (rng ρ) (own XG ρ) (wc.at d) (rng ρ1) (own XG ρ1) w1 es->∀b,rng ρ1 b->¬SB b:=λd w1 ρ1 es m4 b hb hs=>by
  rcases m4.new b hb with h1|h1
  ·exact hc.foot.apart b h1 hs
  ·have h2:wc.heap.size<=b:=h1;have:=hc.foot.low b hs;omega
 obtain⟨M,jZ,a1,d,w1,es,iZ,t1,q1,fu,hgo,hz,nJ,nW,pU,_⟩:=zG (P:=XG.P) (SB:=SB) (sl:=sl) hc.g0 rfl hc.leavers hc.past λd=>by
  obtain⟨w1,h1,_,h3⟩:=key d;obtain⟨ρ1,m1,m2,m4⟩:=step d w1 h1;refine⟨_,w1,_,hst d w1 h1,h3,λev iG=>?_⟩;have:=mem_listed iG;rw[gZ]at this;exact Fz (m4.ev ev this) (qN d w1 ρ1 _ m4) m4.low
 obtain⟨gy,h1,h2,h3⟩:=key d;obtain⟨ρ1,m1,m2,m4⟩:=step d gy h1;rw[hst d gy h1]at hgo;injection hgo with e1 e2 e3;subst e1;subst e2;obtain⟨oI,iB,w2,nY,t2,tV,ρ2,q2,k1,k2,k3,k4,k5⟩:=nx gy h2 gy (Same.refl _) jZ iZ t1 SB ρ1 q1
  ⟨nJ,nW,pU,⟨qN d gy ρ1 _ m4,λb hb=>xll (hc.foot.low b hb) h3,m4.own,m4.low⟩,λhb=>(by rw[show(b.at (a.put o.dst aK) (.inRegion ops td::k)).fn=b.fn from rfl,gB]at hb;cases hb),λc kH hb=>(hc.cs c kH hb).mono m1,m2,trivial⟩ hN
  (λx hx=>(hK x hx).mono m1)
 exact⟨oI,iB,w2,nY,t2,tV,ρ2,q2,Runs.trans ⟨M,fu⟩ k1,k2,k3,k4,k5⟩
theorem qf.X9 {a:Act} (gB:blG b.fn=true) (hk:b.kind≠.early) (ho:ops[i]?=some o) (fH:kE XG.P XG.P' fb true o=true) (hw:ah o (aJ ops a.tmps)=true)
  (gZ:ae a.eval o=ae e o) (he:∀ρ,(∀v∈kv,VR XG.F ρ v v)->EvR XG.F fb ρ e e) (hr:∀wc,Same w wc->∃v w1,(ae e o).run XG.P wc=.ok (.value v) w1/\R v w1/\wc.heap.size<=w1.heap.size)
  (n:∀v w1,R v w1->qf N kv cs (b.at (a.put o.dst v) (.inRegion ops td::k)) w1 eX Z):qf N kv cs (b.at a (.inRegion ops (i::td)::k)) w eX Z:=λwc s gs sl t SB ρ q hc hN hK=>by
 have key:∀d,∃v w1,(ae e o).run XG.P (wc.at d)=.ok (.value v) w1/\R v w1/\wc.heap.size<=w1.heap.size:=λd=>hr (wc.at d) (s.trans (Same.at wc d));have qY:∀d,WR XG ρ (wc.at d) (wc.at d):=λd=>⟨hc.wr.fn,hc.wr.inj,hc.wr.heap,λ_ _=>rfl,hc.wr.sh⟩
 have hst:∀d v w1,(ae e o).run XG.P (wc.at d)=.ok (.value v) w1->stepG XG.P true (G (b.at a (.inRegion ops (i::td)::k)) cs) (wc.at d)=.go (G (b.at (a.put o.dst v) (.inRegion ops td::k)) cs) w1 _:=λd v w1 h=>
  stepG_value (P:=XG.P) (main:=true) (b:=b) (k:=k) (cs:=cs) (rest:=td) (a:=a) (w:=wc.at d) ho hw hk (by rw[gZ];exact h)
 have step:∀d v w1,(ae e o).run XG.P (wc.at d)=.ok (.value v) w1->wc.heap.size<=w1.heap.size->
   ∃ρ1,ρ.le ρ1/\WR XG ρ1 w1 w1/\VR XG.F ρ1 v v/\oO (rng ρ) (own XG ρ) (wc.at d) (rng ρ1) (own XG ρ1) w1 ((ae e o).events XG.P (wc.at d) #[]):=λd v w1 h _=>
  let⟨ρ1,m1,m2,m3,m4,_⟩:=NN rfl yX fH (he ρ hK) (qY d) h
  ⟨ρ1,m1,m2,m3,m4⟩
 have qN:∀(d:Nat) (v:aa) (w1:ac) (ρ1:Rel) (es:Array Event),oO (rng ρ) (own XG ρ) (wc.at d) (rng ρ1) (own XG ρ1) w1 es->∀b,rng ρ1 b->¬SB b:=λd v w1 ρ1 es m4 b hb hs=>by
  rcases m4.new b hb with h1|h1
  ·exact hc.foot.apart b h1 hs
  ·have h2:wc.heap.size<=b:=h1;have:=hc.foot.low b hs;omega
 obtain⟨M,jZ,a1,d,w1,es,iZ,t1,q1,fu,hgo,hz,nJ,nW,pU,_⟩:=zG (P:=XG.P) (SB:=SB) (sl:=sl) hc.g0 rfl hc.leavers hc.past λd=>by
  obtain⟨v,w1,h1,_,h3⟩:=key d;obtain⟨ρ1,m1,m2,m3,m4⟩:=step d v w1 h1 h3;refine⟨_,w1,_,hst d v w1 h1,h3,λev iG=>?_⟩;have:=mem_listed iG;rw[gZ]at this;exact Fz (m4.ev ev this) (qN d v w1 ρ1 _ m4) m4.low
 obtain⟨v,gy,h1,h2,h3⟩:=key d;obtain⟨ρ1,m1,m2,m3,m4⟩:=step d v gy h1 h3;rw[hst d v gy h1]at hgo;injection hgo with e1 e2 e3;subst e1;subst e2;obtain⟨oI,iB,w2,nY,t2,tV,ρ2,q2,k1,k2,k3,k4,k5⟩:=n v gy h2 gy (Same.refl _) jZ iZ t1 SB ρ1 q1
  ⟨nJ,nW,pU,⟨qN d v gy ρ1 _ m4,λb hb=>xll (hc.foot.low b hb) h3,m4.own,m4.low⟩,λhb=>(by rw[show(b.at (a.put o.dst v) (.inRegion ops td::k)).fn=b.fn from rfl,gB]at hb;cases hb),λc kH hb=>(hc.cs c kH hb).mono m1,m2,trivial⟩ hN
  (λx hx=>(hK x hx).mono m1)
 exact⟨oI,iB,w2,nY,t2,tV,ρ2,q2,Runs.trans ⟨M,fu⟩ k1,k2,k3,k4,k5⟩
theorem qf.YT {fn:Func} {args:Array aa} (gB:blG b.fn=true) (ho:ops[i]?=some o) (hd:o.dst=some j) (hw:ah o (aJ ops (lay n x))=true) (hk:b.kind≠.early)
  (ev:∀w,(ae (evx n x) o).run XG.P w=.ok (.enter f args) w/\(ae (evx n x) o).events XG.P w #[]=#[]) (hf:XG.P.funcs[f]?=some fn)
  (ic:∀ρ,(∀v∈kv,VR XG.F ρ v v)->blG f=false->zm XG.F ρ args.toList args.toList) (hS:∀v w wc,Same w wc->R v w->R v wc)
  (lg:yU N kv f args w R) (nx:∀v w',R v w'->qf N kv cs (b.at ⟨lay n (upd x j v),[]⟩ (.inRegion ops td::k)) w' eX Z):qf N kv cs (b.at ⟨lay n x,[]⟩ (.inRegion ops (i::td)::k)) w eX Z:=by
 have hs:∀w,stepG XG.P true (G (b.at ⟨lay n x,[]⟩ (.inRegion ops (i::td)::k)) cs) w=.go (G (aH XG.P f args .normal) (b.at ⟨lay n x,[]⟩ (.inRegion ops (i::td)::k)::cs)) w #[]:=λw=>by
  rw[stepG_enter ho hw hk (ev w).1];unfold listed;rw[(ev w).2,seen_none]
 refine qf.sil (.step hs (.refl _ _)) (λρ h1 h2 hk=>⟨λhb=>FSt.enter hf (ic ρ hk (by rw[<-Oo XG.P f args];exact hb)),λc hc=>?_⟩) ((lg _).then ?_)
 ·rcases bG.1 hc with rfl|hc
  ·exact h1
  ·exact h2 c hc
 rintro zh w1 ⟨uO,v,hl,hv,hr⟩;refine qf.sil (.step (λw=>Lp hl) (.refl _ _)) (λρ h1 h2 _=>⟨λhb=>?_,λc hc=>h2 c (.tail _ hc)⟩) ?_
 ·rw[Frame.Le,show(b.at ⟨lay n x,[]⟩ (.inRegion ops (i::td)::k)).fn=b.fn from rfl,gB]at hb;cases hb
 rw[Frame.finish_at,ho];show qf N kv cs (b.at ((⟨lay n x,[]⟩:Act).put o.dst v) _) w1 eX Z;rw[hd];show qf N kv cs (b.at ⟨(lay n x).setIfInBounds j v,[]⟩ _) w1 eX Z;rw[xH];exact nx v w1 hr
end
section
variable {e:bJ->aa} {o:Oper} {a b c:bJ} {v:aa} {m n:Int} {t u:Bool} {ty:aI} {p:Option Addr} {l cp:Nat}
theorem Pure.Qc (h:o.op=.call {callee:=.builtin .len,args:=#[a],argTypes:=#[22]}) (ha:e a=.slice p l cp):Pure e o (.int .i64 l):=λw=>by
 have hu:=underlying22;unfold ae;constructor<;>simp[go_sem,h,ha,hu,resolve,invoke,builtin]
theorem Pure.Qb {s:ByteArray} (h:o.op=.call {callee:=.builtin .len,args:=#[a],argTypes:=#[9]}) (ha:e a=.string s):Pure e o (.int .i64 s.size):=λw=>by
 have hu:=underlying9;unfold ae;constructor<;>simp[go_sem,h,ha,hu,resolve,invoke,builtin,Builtin.len_]
theorem Pure.idx {o0:Nat} (h:o.op=.indexAddr 22 a b) (ha:e a=.slice (some ⟨g,o0,none⟩) l cp) (hb:e b=.int .i64 i) (hi:i<l):Pure e o (.pointer (some ⟨g,o0+i*10,none⟩)):=λw=>by
 have hu:=underlying22;have h1:(0:Int)<=(i:Int):=by omega
 have h2:(i:Int)<(l:Int):=by omega
 have yJ:(⟨g,o0,none⟩:Addr).add (i*10)=⟨g,o0+i*10,none⟩:=aq ..;unfold ae;constructor<;>simp[go_sem,h,ha,hb,hu,h1,h2,yJ]
theorem Pure.fOp (f:Nat) (hf:f<10) (h:o.op=.fieldAddr 30 a f) (ha:e a=.pointer (some ⟨g,0,none⟩)):Pure e o (.pointer (some ⟨g,f,none⟩)):=λw=>by
 have hu:=underlying30;have vT:f=0\/f=1\/f=2\/f=3\/f=4\/f=5\/f=6\/f=7\/f=8\/f=9:=by omega
 unfold ae;rcases vT with rfl|rfl|rfl|rfl|rfl|rfl|rfl|rfl|rfl|rfl<;>constructor<;>simp[go_sem,h,ha,hu]
theorem Pure.jb8 (h:o.op=.build 36 #[]):Pure e o (.agg #[.slice none 0 0,.slice none 0 0,.slice none 0 0,.bool false]):=λw=>by
 unfold ae;simp only[h];constructor
 ·kernel_rfl
 ·kernel_rfl
end
theorem VR.move {F:cn->Prop} {o1 o2:Nat} (h:VR F ρ (.pointer (some ⟨g,o1,none⟩)) (.pointer (some ⟨g,o1,none⟩))):VR F ρ (.pointer (some ⟨g,o2,none⟩)) (.pointer (some ⟨g,o2,none⟩)):=by
 cases h with
 |ptr r=>exact .ptr r
section
variable {N:Blocks} {kv:List aa} {cs eX:List bg} {w:ac} {Z:bg->ac->Prop} {b:bg} {k:List Item} {n i j:Nat} {x:Nat->aa} {ops:Array Oper} {td:List Nat} {o:Oper} {ty:aI} {a:Nat} {g f:Nat}
theorem qf.BU {v:aa} (gB:blG b.fn=true) (hk:b.kind≠.early) (ho:ops[i]?=some o) (eU:o.op=.load ty (.tmp a)) (hd:o.dst=some j) (hw:ah o (aJ ops (lay n x))=true) (ha:a<n) (hx:x a=.pointer (some ⟨g,f,none⟩))
  (iF:.pointer (some ⟨g,0,none⟩)∈kv) (hA:∀w,(isAgg ty).run prog w=.ok false w) (hc:w.cell? ⟨g,f,none⟩=some v)
  (nx:qf N kv cs (b.at ⟨lay n (upd x j v),[]⟩ (.inRegion ops td::k)) w eX Z):qf N kv cs (b.at ⟨lay n x,[]⟩ (.inRegion ops (i::td)::k)) w eX Z:=by
 have fH:kE XG.P XG.P' fb true o=true:=by unfold kE;rw[eU];rfl
 have he:(bK (lay n x) []).eval (.tmp a)=ek [(a,.pointer (some ⟨g,f,none⟩))] (.tmp a):=by rw[show(bK (lay n x) []).eval (.tmp a)=x a from FI ha,hx];simp[ek]
 refine qf.X9 (e:=ek [(a,.pointer (some ⟨g,f,none⟩))]) (R:=λv' w1=>v'=v/\Same w w1) gB hk ho fH hw (by unfold ae;simp only[eU];rw[he]) (λρ hK=>GJ λp hp=>?_) (λwc s=>?_) ?_
 ·rw[aZ]at hp;subst hp;exact VR.move (hK _ iF)
 ·refine⟨v,wc,?_,⟨rfl,s⟩,ji _⟩;have jL:wc.cell? ⟨g,f,none⟩=some v:=(xcb (by rw[s.heap])).trans hc;show(ae _ o).run prog wc=_;unfold ae;simp[go_sem,eU,ek,hA,jL]
 ·rintro _ w1 ⟨rfl,s⟩;rw[hd];show qf N kv cs (b.at ⟨(lay n x).setIfInBounds j _,[]⟩ _) w1 eX Z;rw[xH];exact nx.same s
theorem qf.jb7 (gB:blG b.fn=true) (hk:b.kind≠.early) (ho:ops[i]?=some o) (eU:o.op=.load ty (.tmp a)) (hd:o.dst=some j) (hw:ah o (aJ ops (lay n x))=true) (ha:a<n) (hx:x a=.pointer (some ⟨g,0,none⟩))
  (iF:.pointer (some ⟨g,0,none⟩)∈kv) (hA:∀w es,(isAgg ty).runT prog w es=(.ok true w,es)) (hS:∀w es,(sizeOf ty).runT prog w es=(.ok l.length w,es)) (hc:∀j v,l[j]?=some v->w.cell? ⟨g,j,none⟩=some v)
  (nx:qf N kv cs (b.at ⟨lay n (upd x j (.agg l.toArray)),[]⟩ (.inRegion ops td::k)) w eX Z):qf N kv cs (b.at ⟨lay n x,[]⟩ (.inRegion ops (i::td)::k)) w eX Z:=by
 have fH:kE XG.P XG.P' fb true o=true:=by unfold kE;rw[eU];rfl
 have he:(bK (lay n x) []).eval (.tmp a)=ek [(a,.pointer (some ⟨g,0,none⟩))] (.tmp a):=by rw[show(bK (lay n x) []).eval (.tmp a)=x a from FI ha,hx];simp[ek]
 refine qf.X9 (e:=ek [(a,.pointer (some ⟨g,0,none⟩))]) (R:=λv' w1=>v'=.agg l.toArray/\Same w w1) gB hk ho fH hw (by unfold ae;simp only[eU];rw[he]) (λρ hK=>GJ λp hp=>?_) (λwc s=>?_) ?_
 ·rw[aZ]at hp;subst hp;exact hK _ iF
 ·refine⟨.agg l.toArray,wc,?_,⟨rfl,s⟩,ji _⟩;obtain⟨gD,h1,_⟩:=WY (P:=prog) (w:=wc) (a:=⟨g,0,none⟩) (ty:=ty) l (hA _) (hS _) λj v hj=>by
   rw[aq,aG];exact(xcb (by rw[s.heap])).trans (hc j v hj)
  have h2:(Instr.loadAt ty (.pointer (some ⟨g,0,none⟩))).run prog wc=.ok (.agg l.toArray) wc:=by
   rw[<-Sem.runT_fst prog _ _ #[],h1]
  show(ae _ o).run prog wc=_;unfold ae;simp only[eU];rw[show ek [(a,.pointer (some ⟨g,0,none⟩))] (.tmp a)=.pointer (some ⟨g,0,none⟩) by simp[ek]];simp only[Sem.run_bind,h2,Result.andThen_ok,Sem.run_pure]
 ·rintro _ w1 ⟨rfl,s⟩;rw[hd];show qf N kv cs (b.at ⟨(lay n x).setIfInBounds j _,[]⟩ _) w1 eX Z;rw[xH];exact nx.same s
theorem qf.Ya {z:aa} (gB:blG b.fn=true) (hk:b.kind≠.early) (ho:ops[i]?=some o) (eU:o.op=.alloc ty) (hd:o.dst=some j) (hw:ah o (aJ ops (lay n x))=true) (fH:kE XG.P XG.P' fb true o=true) (hz:∀w,(zeroValue ty).run prog w=.ok z w)
  (nx:qf N (.pointer (some ⟨w.heap.size,0,none⟩)::kv) cs (b.at ⟨lay n (upd x j (.pointer (some ⟨w.heap.size,0,none⟩))),[]⟩ (.inRegion ops td::k)) (w.alloc (.cells z.cells ty)) eX Z):qf N kv cs (b.at ⟨lay n x,[]⟩ (.inRegion ops (i::td)::k)) w eX Z:=by
 refine qf.blind (e:=ek []) (R:=λv' w1=>v'=.pointer (some ⟨w.heap.size,0,none⟩)/\Same (w.alloc (.cells z.cells ty)) w1) gB hk ho fH hw (by unfold ae;simp only[eU]) (λρ hK=>GJ λp hp=>(by cases hp)) (λwc s=>?_) ?_
 ·refine⟨_,wc.alloc (.cells z.cells ty),?_,⟨rfl,⟨?_,s.os,s.output⟩⟩,by simp⟩
  ·rw[<-s.heap];show(ae _ o).run prog wc=_;unfold ae;simp[go_sem,eU,Instr.alloc,hz]
  ·show wc.heap.push _=w.heap.push _;rw[s.heap]
 ·rintro _ w1 ⟨rfl,s⟩;rw[hd];show qf N _ cs (b.at ⟨(lay n x).setIfInBounds j _,[]⟩ _) w1 eX Z;rw[xH];exact nx.same s
theorem qf.bbox (gB:blG b.fn=true) (hk:b.kind≠.early) (ho:ops[i]?=some o) (eU:o.op=.box ty (.tmp a)) (hd:o.dst=some j) (hw:ah o (aJ ops (lay n x))=true) (ha:a<n) (hx:x a=.agg l.toArray) (hl:∀ρ,VR XG.F ρ (.agg l.toArray) (.agg l.toArray))
  (nx:qf N (.pointer (some ⟨w.heap.size,0,none⟩)::kv) cs (b.at ⟨lay n (upd x j (.pointer (some ⟨w.heap.size,0,none⟩))),[]⟩ (.inRegion ops td::k)) (w.alloc (.cells l.toArray ty)) eX Z):qf N kv cs (b.at ⟨lay n x,[]⟩ (.inRegion ops (i::td)::k)) w eX Z:=by
 have fH:kE XG.P XG.P' fb true o=true:=by unfold kE;rw[eU];rfl
 have he:(bK (lay n x) []).eval (.tmp a)=ek [(a,.agg l.toArray)] (.tmp a):=by rw[show(bK (lay n x) []).eval (.tmp a)=x a from FI ha,hx];simp[ek]
 refine qf.blind (e:=ek [(a,.agg l.toArray)]) (R:=λv' w1=>v'=.pointer (some ⟨w.heap.size,0,none⟩)/\Same (w.alloc (.cells l.toArray ty)) w1) gB hk ho fH hw (by unfold ae;simp only[eU];rw[he]) (λρ hK=>GJ λp hp=>?_) (λwc s=>?_) ?_
 ·rw[aZ]at hp;subst hp;exact hl ρ
 ·refine⟨_,wc.alloc (.cells l.toArray ty),?_,⟨rfl,⟨?_,s.os,s.output⟩⟩,by simp⟩
  ·rw[<-s.heap];show(ae _ o).run prog wc=_;unfold ae;simp[go_sem,eU,Instr.box,ek,Value.cells]
  ·show wc.heap.push _=w.heap.push _;rw[s.heap]
 ·rintro _ w1 ⟨rfl,s⟩;rw[hd];show qf N _ cs (b.at ⟨(lay n x).setIfInBounds j _,[]⟩ _) w1 eX Z;rw[xH];exact nx.same s
theorem qf.X4 {c:Nat} {z:List aa} {w0:ac} (gB:blG b.fn=true) (hk:b.kind≠.early) (ho:ops[i]?=some o) (eU:o.op=.store ty (.tmp a) (.tmp c)) (hd:o.dst=none) (hw:ah o (aJ ops (lay n x))=true) (ha:a<n) (hx:x a=.pointer (some ⟨w0.heap.size,0,none⟩)) (hcn:c<n) (Qj:x c=.agg l.toArray)
  (iF:.pointer (some ⟨w0.heap.size,0,none⟩)∈kv) (hl:∀ρ,VR XG.F ρ (.agg l.toArray) (.agg l.toArray)) (Ei:w=w0.alloc (.cells z.toArray ty)) (hi:(prog.info? ty).map (·.size)=some l.length) (hz:z.length=l.length) (h1:l.all (·.oneCell')=true)
  (nx:qf N kv cs (b.at ⟨lay n x,[]⟩ (.inRegion ops td::k)) (w0.alloc (.cells l.toArray ty)) eX Z):qf N kv cs (b.at ⟨lay n x,[]⟩ (.inRegion ops (i::td)::k)) w eX Z:=by
 have fH:kE XG.P XG.P' fb true o=true:=by unfold kE;rw[eU];rfl
 subst Ei;by_cases tK:a=c
 ·subst tK;rw[hx]at Qj;cases Qj
 have he:(bK (lay n x) []).eval (.tmp a)=ek [(a,.pointer (some ⟨w0.heap.size,0,none⟩)),(c,.agg l.toArray)] (.tmp a):=by rw[show(bK (lay n x) []).eval (.tmp a)=x a from FI ha,hx];simp[ek]
 have hca:(c==a)=false:=by simpa using λe=>tK e.symm
 have Zo:ek [(a,.pointer (some ⟨w0.heap.size,0,none⟩)),(c,.agg l.toArray)] (.tmp c)=.agg l.toArray:=by simp[ek,List.lookup_cons,hca]
 refine qf.jb6 (e:=ek [(a,.pointer (some ⟨w0.heap.size,0,none⟩)),(c,.agg l.toArray)]) (R:=λw1=>Same (w0.alloc (.cells l.toArray ty)) w1) gB hk ho fH hw (by unfold ae;simp only[eU];rw[he,Zo,show(bK (lay n x) []).eval (.tmp c)=.agg l.toArray from(FI hcn).trans Qj]) (λρ hK=>GJ λp hp=>?_) (λwc s=>?_) ?_
 ·simp only[bG,List.not_mem_nil,or_false]at hp;rcases hp with rfl|rfl
  ·exact hK _ iF
  ·exact hl ρ
 ·have hb:wc.heap[w0.heap.size]?=some (.cells z.toArray ty (0,0)):=by rw[s.heap];exact bi _ _
  have hst:=run_storeVar_row (P:=prog) wc w0.heap.size ty ty z.toArray l.toArray hb (by simpa using hi) (by simpa using hz) (by simpa using h1);refine⟨wc.setRow w0.heap.size l.toArray,?_,⟨?_,?_,?_⟩,?_⟩
  ·show(ae _ o).run prog wc=_;unfold ae;simp only[eU];rw[Zo,show ek [(a,.pointer (some ⟨w0.heap.size,0,none⟩)),(c,.agg l.toArray)] (.tmp a)=.pointer (some ⟨w0.heap.size,0,none⟩) by simp[ek]];simp only[Instr.storeAt,Instr.sureAddr,Sem.run_bind,Sem.run_pure,Result.andThen_ok,hst]
  ·apply Array.ext_getElem?;intro m;by_cases e:m=w0.heap.size
   ·subst e;rw[setRow_heap wc _ _ _ _ _ hb];exact(bi _ _).symm
   ·rw[setRow_other wc _ _ _ e,s.heap];show(w0.heap.push _)[m]?=(w0.heap.push _)[m]?;rw[bR,bR,if_neg e,if_neg e]
  ·exact s.os
  ·exact s.output
  ·simp[World.setRow]
 ·intro w1 s;rw[hd];exact nx.same s
end
abbrev fM:cn:=10
def bM:bg:=base fM
theorem kg:blG bM.fn=true:=rfl
theorem jU:bM.kind≠.early:=by decide
noncomputable def mB:Code:=(Tryz.f10.body).getD .skip
noncomputable def mL:Code:=match mB with|.seq _ (.seq _ (.seq (.seq _ (.block _ (.loop c))) _))=>c|_=>.skip
noncomputable def mI:Code:=match mL with|.seq _ (.seq _ (.seq (.block _ c) _))=>c|_=>.skip
noncomputable def M0:Array Oper:=match mB with|.seq a _=>rg a|_=>#[]
noncomputable def M1:Array Oper:=match mB with|.seq _ (.seq a _)=>rg a|_=>#[]
noncomputable def M2:Array Oper:=match mB with|.seq _ (.seq _ (.seq (.seq a _) _))=>rg a|_=>#[]
noncomputable def M9:Array Oper:=match mB with|.seq _ (.seq _ (.seq _ (.seq a _)))=>rg a|_=>#[]
noncomputable def M3:Array Oper:=match mL with|.seq a _=>rg a|_=>#[]
noncomputable def M8:Array Oper:=match mL with|.seq _ (.seq _ (.seq _ a))=>rg a|_=>#[]
noncomputable def M4:Array Oper:=match mI with|.seq a _=>rg a|_=>#[]
noncomputable def M5:Array Oper:=match mI with|.seq _ (.seq a _)=>rg a|_=>#[]
noncomputable def M6:Array Oper:=match mI with|.seq _ (.seq _ (.seq a _))=>rg a|_=>#[]
noncomputable def M7:Array Oper:=match mI with|.seq _ (.seq _ (.seq _ (.cond _ (.seq a _) _)))=>rg a|_=>#[]
theorem jiz:mB=.seq (.region 0 M0 false) (.seq (.region 1 M1 false) (.seq (.seq (.region 2 M2 false) (.block 0 (.loop mL))) (.seq (.region 9 M9 false) .ret))):=rfl
theorem YN:mL=.seq (.region 3 M3 false) (.seq (.cond (.tmp 11) .skip (.exit 0)) (.seq (.block 1 mI) (.region 8 M8 false))):=rfl
theorem ji0:mI=.seq (.region 4 M4 false) (.seq (.region 5 M5 false) (.seq (.region 6 M6 false) (.cond (.tmp 28) (.seq (.region 7 M7 false) .ret) .skip))):=rfl
structure sJ (n0:Nat) (w:ac) (sp:Option Addr) (L:Nat) (os:Nat->OpV):Prop where
 at':0<L->∃g o0,sp=some ⟨g,o0,none⟩/\g<n0/\g<w.heap.size/\∀i,i<L->∀(j:Nat) v,(os i).cells.toList[j]?=some v->w.cell? ⟨g,o0+i*10+j,none⟩=some v
 ok:∀i,i<L->OpV.Ok (os i)
 len:L<=140737488355328
theorem sJ.but {n0 L:Nat} {sp:Option Addr} {os:Nat->OpV} (h:sJ n0 w sp L os) (hb:But (λb=>n0<=b) w w'):sJ n0 w' sp L os:=by
 refine⟨λhL=>?_,h.ok,h.len⟩;obtain⟨g,o0,h1,h2,h3,h4⟩:=h.at' hL;refine⟨g,o0,h1,h2,xll h3 hb.size,λi hi j v hj=>?_⟩;exact(xcb (hb.keep g h3 (by omega))).trans (h4 i hi j v hj)
theorem PD:∀(w:ac) (es:Array Event),(isAgg 30).runT XG.P w es=(.ok true w,es):=λw es=>by
 have hu:=underlying30;show(isAgg _).runT prog w es=_;simp[isAgg,go_sem,Sem.runT_eq,hu]
theorem Nq:(prog.info? 30).map (λi=>(i.zero,i.size))=some (some (.agg #[.int .i64 0,.int .i64 0,.int .i64 0,.int .i64 0,.int .i64 0,.int .i64 0,.int .i64 0,.string ⟨#[]⟩,.string ⟨#[]⟩,.string ⟨#[]⟩]),10):=by kernel_rfl
theorem PX:∀(w:ac) (es:Array Event),(sizeOf 30).runT XG.P w es=(.ok 10 w,es):=λw es=>by
 obtain⟨i,h1,h2⟩:=Option.map_eq_some_iff.1 Nq;injection h2 with _ h3;show(sizeOf _).runT prog w es=_;simp[sizeOf,typeInfo,go_sem,Sem.runT_eq,h1,h3]
theorem Xo (w:ac):(zeroValue 30).run prog w=.ok (.agg #[.int .i64 0,.int .i64 0,.int .i64 0,.int .i64 0,.int .i64 0,.int .i64 0,.int .i64 0,.string ⟨#[]⟩,.string ⟨#[]⟩,.string ⟨#[]⟩]) w:=(zero_of_info Nq).1 w
theorem Xr:(prog.info? 30).map (·.size)=some 10:=(zero_of_info Nq).2
theorem Ig (o:OpV) (F:cn->Prop) (ρ:Rel):VR F ρ (.agg o.cells.toList.toArray) (.agg o.cells.toList.toArray):=
 .agg (.cons (.int _ _) (.cons (.int _ _) (.cons (.int _ _) (.cons (.int _ _) (.cons (.int _ _) (.cons (.int _ _) (.cons (.int _ _) (.cons (.string _) (.cons (.string _) (.cons (.string _) .nil))))))))))
theorem Nj (w:ac):(isAgg 9).run prog w=.ok false w:=by
 have hu:=underlying9;simp[isAgg,go_sem,hu]
theorem GU (w:ac):(isAgg 3).run prog w=.ok false w:=by
 have hu:=underlying3;simp[isAgg,go_sem,hu]
section
variable {N:Blocks} {kv:List aa} {cs eX:List bg} {w:ac} {Z:bg->ac->Prop} {K:List Item} {n i j:Nat} {x:Nat->aa}
theorem qf.LB {fn:Func} {v:aa} (hf:XG.P.funcs[f]?=some fn) (pX:∀w,(results fn (lay n x)).runT XG.P w #[]=(.ok v w,#[])) (IJ:∀ρ,VR XG.F ρ v v) (hR:∀wc,Same w wc->R v wc):
  qf N kv cs ((base f).at ⟨lay n x,[]⟩ (.code .ret::K)) w cs (Ret f R):=
 qf.ret λwc hs=>⟨rfl,v,⟨rfl,rfl,rfl,fn,hf,pX⟩,λρ _=>IJ ρ,hR wc hs⟩
theorem VD:∀{x:Nat->aa} {v:aa},x 2=v->∀w,(results Tryz.f10 (lay 32 x)).runT XG.P w #[]=(.ok v w,#[]):=λ{x v} h w=>by
 have e:Tryz.f10.results=#[.tmp 2]:=rfl;have e2:(lay 32 x)[2]?=some v:=by rw[KD (by decide),h]
 show(results _ _).runT prog w #[]=_;simp[results,e,go_sem,ak,e2]
end
section
variable {N:Blocks} {kv:List aa} {cs eX:List bg} {w:ac} {Z:bg->ac->Prop} {K:List Item} {x:Nat->aa} {sp:Option Addr} {L cp i ob n0:Nat} {m:Int} {o:OpV}
theorem m0 (h0:x 0=.slice sp L cp) (nx:∀y:Nat->aa,y 0=.slice sp L cp->qf N kv cs (bM.at ⟨lay 32 y,[]⟩ K) w eX Z):qf N kv cs (bM.at ⟨lay 32 x,[]⟩ (.code (.region 0 M0 false)::K)) w eX Z:=by
 refine qf.region ?_;change qf N kv cs (bM.at ⟨lay 32 x,[]⟩ (.inRegion M0 [0]::K)) w eX Z;refine qf.bv kg jU (.bool false) rfl rfl (qb rfl) (Pure.assign rfl rfl) ?_;exact qf.regionEnd (nx _ h0)
theorem m1 (h0:x 0=.slice sp L cp) (nx:∀y:Nat->aa,y 0=.slice sp L cp->y 3=.int .i64 L->qf N kv cs (bM.at ⟨lay 32 y,[]⟩ K) w eX Z):qf N kv cs (bM.at ⟨lay 32 x,[]⟩ (.code (.region 1 M1 false)::K)) w eX Z:=by
 refine qf.region ?_;change qf N kv cs (bM.at ⟨lay 32 x,[]⟩ (.inRegion M1 [0,1,2]::K)) w eX Z;refine qf.bv kg jU (.slice sp L cp) rfl rfl (qb rfl) (Pure.move rfl (qy h0)) ?_;refine qf.bv kg jU (.int .i64 L) rfl rfl (qb rfl) (Pure.Qc rfl (qy rfl)) ?_;refine qf.bv kg jU (.int .i64 L) rfl rfl (qb rfl) (Pure.assign rfl (qy rfl)) ?_;exact qf.regionEnd (nx _ h0 rfl)
theorem m2 (h0:x 0=.slice sp L cp) (h3:x 3=.int .i64 L) (nx:∀y:Nat->aa,y 3=.int .i64 L->y 8=.slice sp L cp->y 9=.int .i64 L->y 10=.int .i64 (0:Nat)->qf N kv cs (bM.at ⟨lay 32 y,[]⟩ K) w eX Z):qf N kv cs (bM.at ⟨lay 32 x,[]⟩ (.code (.region 2 M2 false)::K)) w eX Z:=by
 refine qf.region ?_;change qf N kv cs (bM.at ⟨lay 32 x,[]⟩ (.inRegion M2 [0,1,2]::K)) w eX Z;refine qf.bv kg jU (.slice sp L cp) rfl rfl (qb rfl) (Pure.move rfl (qy h0)) ?_;refine qf.bv kg jU (.int .i64 L) rfl rfl (qb rfl) (Pure.Qc rfl (qy rfl)) ?_;refine qf.bv kg jU (.int .i64 0) rfl rfl (qb rfl) (Pure.move rfl rfl) ?_;exact qf.regionEnd (nx _ h3 rfl rfl rfl)
theorem m3 (h3:x 3=.int .i64 m) (h8:x 8=.slice sp L cp) (h9:x 9=.int .i64 L) (iQ:x 10=.int .i64 i) (ht:decide ((i:Int)<L)=t) (nx:∀y:Nat->aa,y 3=.int .i64 m->y 8=.slice sp L cp->y 9=.int .i64 L->y 10=.int .i64 i->y 11=.bool t->qf N kv cs (bM.at ⟨lay 32 y,[]⟩ K) w eX Z):qf N kv cs (bM.at ⟨lay 32 x,[]⟩ (.code (.region 3 M3 false)::K)) w eX Z:=by
 refine qf.region ?_;change qf N kv cs (bM.at ⟨lay 32 x,[]⟩ (.inRegion M3 [0]::K)) w eX Z;refine qf.bv kg jU (.bool t) rfl rfl (qb rfl) (Pure.lss rfl (qy iQ) (qy h9) ht) ?_;exact qf.regionEnd (nx _ h3 h8 h9 iQ rfl)
theorem m4 {o0:Nat} (h3:x 3=.int .i64 m) (h8:x 8=.slice (some ⟨g,o0,none⟩) L cp) (h9:x 9=.int .i64 L) (iQ:x 10=.int .i64 i) (hi:i<L) (hN:N g) (eH:g<w.heap.size) (hc:∀(j:Nat) v,o.cells.toList[j]?=some v->w.cell? ⟨g,o0+i*10+j,none⟩=some v)
  (nx:∀y:Nat->aa,y 3=.int .i64 m->y 8=.slice (some ⟨g,o0,none⟩) L cp->y 9=.int .i64 L->y 10=.int .i64 i->y 5=.pointer (some ⟨w.heap.size,0,none⟩)->qf N (.pointer (some ⟨w.heap.size,0,none⟩)::kv) cs (bM.at ⟨lay 32 y,[]⟩ K) (w.alloc (.cells o.cells 30)) eX Z):
  qf N kv cs (bM.at ⟨lay 32 x,[]⟩ (.code (.region 4 M4 false)::K)) w eX Z:=by
 refine qf.region ?_;change qf N kv cs (bM.at ⟨lay 32 x,[]⟩ (.inRegion M4 [0,1,2,3]::K)) w eX Z;refine qf.bv kg jU (.pointer (some ⟨g,o0+i*10,none⟩)) rfl rfl (qb rfl) (Pure.idx rfl (qy h8) (qy iQ) hi) ?_;refine qf.look (l:=o.cells.toList) kg jU rfl rfl (qb rfl) (qy rfl) hN PD PX eH (λj v hj=>by rw[aq];exact hc j v hj) (λρ=>Ig o _ ρ) ?_;change qf N kv cs (bM.at ⟨(lay 32 _).setIfInBounds 13 _,[]⟩ _) w eX Z;rw[xH];refine qf.Ya kg jU rfl rfl rfl (qb rfl) (by kernel_rfl) Xo ?_;refine qf.X4 (w0:=w) (z:=[.int .i64 0,.int .i64 0,.int .i64 0,.int .i64 0,.int .i64 0,.int .i64 0,.int .i64 0,.string ⟨#[]⟩,.string ⟨#[]⟩,.string ⟨#[]⟩]) (l:=o.cells.toList) kg jU rfl rfl rfl (qb rfl) (by decide) rfl (by decide) rfl (.head _) (λρ=>Ig o _ ρ) rfl Xr rfl rfl ?_;exact qf.regionEnd (nx _ h3 h8 h9 iQ rfl)
theorem m5 (h3:x 3=.int .i64 m) (h5:x 5=.pointer (some ⟨ob,0,none⟩)) (h8:x 8=.slice sp L cp) (h9:x 9=.int .i64 L) (iQ:x 10=.int .i64 i) (iF:.pointer (some ⟨ob,0,none⟩)∈kv) (c7:w.cell? ⟨ob,7,none⟩=some (.string o.s)) (c8:w.cell? ⟨ob,8,none⟩=some (.string o.t)) (c9:w.cell? ⟨ob,9,none⟩=some (.string o.u)) (hm:0<=m) (zQ:m<=4611686018427387904) (hs:o.s.size<=281474976710656) (ht:o.t.size<=281474976710656) (hu:o.u.size<=281474976710656) (nx:∀y:Nat->aa,y 3=.int .i64 (m+(o.s.size+o.t.size+o.u.size))->y 8=.slice sp L cp->y 9=.int .i64 L->y 10=.int .i64 i->qf N kv cs (bM.at ⟨lay 32 y,[]⟩ K) w eX Z):qf N kv cs (bM.at ⟨lay 32 x,[]⟩ (.code (.region 5 M5 false)::K)) w eX Z:=by
 refine qf.region ?_;change qf N kv cs (bM.at ⟨lay 32 x,[]⟩ (.inRegion M5 [0,1,2,3,4,5,6,7,8,9,10,11,12,13]::K)) w eX Z;refine qf.bv kg jU (.int .i64 m) rfl rfl (qb rfl) (Pure.move rfl (qy h3)) ?_;refine qf.bv kg jU (.pointer (some ⟨ob,7,none⟩)) rfl rfl (qb rfl) (Pure.fOp 7 (by decide) rfl (qy h5)) ?_;refine qf.BU kg jU rfl rfl rfl (qb rfl) (by decide) rfl iF Nj c7 ?_;refine qf.bv kg jU (.int .i64 o.s.size) rfl rfl (qb rfl) (Pure.Qb rfl (qy rfl)) ?_;refine qf.bv kg jU (.pointer (some ⟨ob,8,none⟩)) rfl rfl (qb rfl) (Pure.fOp 8 (by decide) rfl (qy h5)) ?_;refine qf.BU kg jU rfl rfl rfl (qb rfl) (by decide) rfl iF Nj c8 ?_;refine qf.bv kg jU (.int .i64 o.t.size) rfl rfl (qb rfl) (Pure.Qb rfl (qy rfl)) ?_;refine qf.bv kg jU (.int .i64 (o.s.size+o.t.size)) rfl rfl (qb rfl) (Pure.add rfl (qy rfl) (qy rfl) (by omega) (by omega)) ?_;refine qf.bv kg jU (.pointer (some ⟨ob,9,none⟩)) rfl rfl (qb rfl) (Pure.fOp 9 (by decide) rfl (qy h5)) ?_;refine qf.BU kg jU rfl rfl rfl (qb rfl) (by decide) rfl iF Nj c9 ?_;refine qf.bv kg jU (.int .i64 o.u.size) rfl rfl (qb rfl) (Pure.Qb rfl (qy rfl)) ?_;refine qf.bv kg jU (.int .i64 (o.s.size+o.t.size+o.u.size)) rfl rfl (qb rfl) (Pure.add rfl (qy rfl) (qy rfl) (by omega) (by omega)) ?_;refine qf.bv kg jU (.int .i64 (m+(o.s.size+o.t.size+o.u.size))) rfl rfl (qb rfl) (Pure.add rfl (qy rfl) (qy rfl) (by omega) (by omega)) ?_;refine qf.bv kg jU (.int .i64 (m+(o.s.size+o.t.size+o.u.size))) rfl rfl (qb rfl) (Pure.assign rfl (qy rfl)) ?_;exact qf.regionEnd (nx _ rfl h8 h9 iQ)
theorem m6 (h3:x 3=.int .i64 m) (h8:x 8=.slice sp L cp) (h9:x 9=.int .i64 L) (iQ:x 10=.int .i64 i) (ht:decide (262144<m)=t) (nx:∀y:Nat->aa,y 3=.int .i64 m->y 8=.slice sp L cp->y 9=.int .i64 L->y 10=.int .i64 i->y 28=.bool t->qf N kv cs (bM.at ⟨lay 32 y,[]⟩ K) w eX Z):qf N kv cs (bM.at ⟨lay 32 x,[]⟩ (.code (.region 6 M6 false)::K)) w eX Z:=by
 refine qf.region ?_;change qf N kv cs (bM.at ⟨lay 32 x,[]⟩ (.inRegion M6 [0,1]::K)) w eX Z;refine qf.bv kg jU (.int .i64 m) rfl rfl (qb rfl) (Pure.move rfl (qy h3)) ?_;refine qf.bv kg jU (.bool t) rfl rfl (qb rfl) (Pure.gtr rfl (qy rfl) rfl ht) ?_;exact qf.regionEnd (nx _ h3 h8 h9 iQ rfl)
theorem m7 (nx:∀y:Nat->aa,y 2=.bool false->qf N kv cs (bM.at ⟨lay 32 y,[]⟩ K) w eX Z):qf N kv cs (bM.at ⟨lay 32 x,[]⟩ (.code (.region 7 M7 false)::K)) w eX Z:=by
 refine qf.region ?_;change qf N kv cs (bM.at ⟨lay 32 x,[]⟩ (.inRegion M7 [0]::K)) w eX Z;refine qf.bv kg jU (.bool false) rfl rfl (qb rfl) (Pure.assign rfl rfl) ?_;exact qf.regionEnd (nx _ rfl)
theorem m8 (h3:x 3=.int .i64 m) (h8:x 8=.slice sp L cp) (h9:x 9=.int .i64 L) (iQ:x 10=.int .i64 i) (hi:i<=4611686018427387904) (nx:∀y:Nat->aa,y 3=.int .i64 m->y 8=.slice sp L cp->y 9=.int .i64 L->y 10=.int .i64 (i+1:Int)->qf N kv cs (bM.at ⟨lay 32 y,[]⟩ K) w eX Z):qf N kv cs (bM.at ⟨lay 32 x,[]⟩ (.code (.region 8 M8 false)::K)) w eX Z:=by
 refine qf.region ?_;change qf N kv cs (bM.at ⟨lay 32 x,[]⟩ (.inRegion M8 [0,1]::K)) w eX Z;refine qf.bv kg jU (.int .i64 (i+1:Int)) rfl rfl (qb rfl) (Pure.add rfl (qy iQ) rfl (by omega) (by omega)) ?_;refine qf.bv kg jU (.int .i64 (i+1:Int)) rfl rfl (qb rfl) (Pure.move rfl (qy rfl)) ?_;exact qf.regionEnd (nx _ h3 h8 h9 rfl)
theorem m9 (h3:x 3=.int .i64 m) (ht:decide (m<=262144)=t) (nx:∀y:Nat->aa,y 2=.bool t->qf N kv cs (bM.at ⟨lay 32 y,[]⟩ K) w eX Z):qf N kv cs (bM.at ⟨lay 32 x,[]⟩ (.code (.region 9 M9 false)::K)) w eX Z:=by
 refine qf.region ?_;change qf N kv cs (bM.at ⟨lay 32 x,[]⟩ (.inRegion M9 [0,1,2]::K)) w eX Z;refine qf.bv kg jU (.int .i64 m) rfl rfl (qb rfl) (Pure.move rfl (qy h3)) ?_;refine qf.bv kg jU (.bool t) rfl rfl (qb rfl) (Pure.leq rfl (qy rfl) rfl ht) ?_;refine qf.bv kg jU (.bool t) rfl rfl (qb rfl) (Pure.assign rfl (qy rfl)) ?_;exact qf.regionEnd (nx _ rfl)
def szT (os:Nat->OpV):Nat->Nat
 |0=>0
 |i+1=>szT os i+((os i).s.size+(os i).t.size+(os i).u.size)
theorem Xw (os:Nat->OpV) {i:Nat} (h:i<=j):szT os i<=szT os j:=by
 induction j with
 |zero=>
  obtain rfl:i=0:=by omega
  exact ji _
 |succ j ih=>
  rcases cU i (j+1)with h1|h1
  ·rw[szT];exact xlt (ih (by omega)) (Nat.le_add_right _ _)
  ·obtain rfl:i=j+1:=by omega
   exact ji _
theorem jc2 {os:Nat->OpV} {w0:ac} (hN:∀g,g<n0->N g) (hS:sJ n0 w0 sp L os) (Qw:n0<=w0.heap.size) (hR:∀(t:Bool) w',(t=true->L+szT os L<=262144)->But (λ_=>False) w0 w'->R (.bool t) w'):
  ∀(d i:Nat) (m:Int) (x:Nat->aa) (kv:List aa) (w:ac),d=L-i->i<=L->(L:Int)<=m->m<=4611686018427387904->(m=L\/m<=262144)->m=(L:Int)+szT os i->But (λ_=>False) w0 w->x 3=.int .i64 m->x 8=.slice sp L cp->x 9=.int .i64 L->x 10=.int .i64 i->
   qf N kv cs (bM.at ⟨lay 32 x,[]⟩ (.code mL::.inLoop mL::.inBlock 0::.code (.seq (.region 9 M9 false) .ret)::K)) w cs (Ret fM R):=by
 intro d;induction d with
 |zero=>
  intro i m x kv w hd hi hLm hm zQ kQ hb h3 h8 h9 iQ;obtain rfl:i=L:=by omega
  rw[YN];refine qf.seq (m3 h3 h8 h9 iQ (t:=false) (xdf (by omega)) λy y3 y8 y9 TB EX=>?_);refine qf.seq (qf.vJ (by decide) EX ?_);refine qf.exit (k':=.code (.seq (.region 9 M9 false) .ret)::K) rfl ?_;refine qf.seq (m9 y3 rfl λz z2=>?_);refine qf.LB func10 (VD z2) (λρ=>.bool _) λwc s=>hR _ _ (λht=>?_) (hb.trans (But.same' s));have:=of_decide_eq_true ht;omega
 |succ d ih=>
  intro i m x kv w hd hi hLm hm zQ kQ hb h3 h8 h9 iQ;have hlen:=hS.len;have Cz:i<L:=by omega
  obtain⟨g,o0,rfl,hg,Jb,iD⟩:=hS.at' (by omega);have fH:=hS.ok i Cz;rw[YN];refine qf.seq (m3 h3 h8 h9 iQ (t:=true) (xdt (by omega)) λy y3 y8 y9 TB EX=>?_);refine qf.seq (qf.vJ (by decide) EX ?_);refine qf.skip ?_;refine qf.seq (qf.block ?_);rw[ji0];refine qf.seq ?_;refine m4 (o:=os i) y3 y8 y9 TB Cz (hN g hg) (xll Jb hb.size) (λj v hj=>(xcb (hb.keep g Jb id)).trans (iD i Cz j v hj)) λz z3 z8 z9 z10 z5=>?_;have gq:But (λ_=>False) w0 (w.alloc (.cells (os i).cells 30)):=hb.trans (But.of_below ((jg _ _).alloc (ji _) _));have hblk:=bi w (.cells (os i).cells 30);have c7:(w.alloc (.cells (os i).cells 30)).cell? ⟨w.heap.size,7,none⟩=some (.string (os i).s):=by unfold ag;rw[hblk];rfl
  have c8:(w.alloc (.cells (os i).cells 30)).cell? ⟨w.heap.size,8,none⟩=some (.string (os i).t):=by unfold ag;rw[hblk];rfl
  have c9:(w.alloc (.cells (os i).cells 30)).cell? ⟨w.heap.size,9,none⟩=some (.string (os i).u):=by unfold ag;rw[hblk];rfl
  have s1:=fH.s;have s2:=fH.t;have s3:=fH.u;have Zi:m<=281474976710656:=by omega
  refine qf.seq (m5 z3 z5 z8 z9 z10 (.head _) c7 c8 c9 (by omega) hm (by omega) (by omega) (by omega) λa a3 a8 a9 mJ=>?_);refine qf.seq ?_;by_cases iX:262144<m+((os i).s.size+(os i).t.size+(os i).u.size)
  ·refine m6 a3 a8 a9 mJ (t:=true) (xdt iX) λc c3 c8 c9 Ri c28=>?_;refine qf.vJ (by decide) c28 ?_;refine qf.seq (m7 λe e2=>?_);exact qf.LB func10 (VD e2) (λρ=>.bool _) λwc s=>hR _ _ (λht=>by cases ht) (gq.trans (But.same' s))
  ·refine m6 a3 a8 a9 mJ (t:=false) (xdf iX) λc c3 c8 c9 Ri c28=>?_;refine qf.vJ (by decide) c28 ?_;refine qf.skip (qf.inBlock ?_);refine m8 c3 c8 c9 Ri (by omega) λe e3 e8 e9 e10=>?_;refine qf.inLoop ?_;exact ih (i+1) _ e _ _ (by omega) (by omega) (by omega) (by omega) (.inr (by omega)) (by rw[kQ,szT];push_cast;omega) gq e3 e8 e9 (by rw[e10];rfl)
end
section
variable {kv:List aa} {w:ac} {sp:Option Addr} {L cp n0:Nat} {os:Nat->OpV} {N:Blocks}
theorem Yy (v:aa) (t:Array aa):(#[v]++t).getD 0 aK=v:=by
 rw[ak,aR (by simp)];rfl
theorem qsg {v:aa}:aH XG.P fM #[v] .normal=bM.at ⟨lay 32 (λi=>(#[v]++bN 31 aK).getD i aK),[]⟩ [.code mB]:=by
 show aH prog fM _ .normal=_;rw[enter_at _ func10 (show Tryz.f10.body=some mB from rfl)];have hn:Tryz.f10.ntmps=32:=rfl;rw[hn,DC (by simp)];rfl
theorem q9s (hN:∀g,g<n0->N g) (hS:sJ n0 w sp L os) (Qw:n0<=w.heap.size):yU N kv fM #[.slice sp L cp] w λv w'=>∃t,v=.bool t/\(t=true->L+szT os L<=262144)/\But (λ_=>False) w w':=λks=>by
 rw[qsg,jiz];refine qf.seq (m0 (sp:=sp) (L:=L) (cp:=cp) (Yy _ _) λy y0=>?_);refine qf.seq (m1 y0 λz z0 z3=>?_);refine qf.seq (qf.seq (m2 z0 z3 λa a3 a8 a9 mJ=>?_));refine qf.block (qf.loop ?_);have hl:=hS.len;exact jc2 hN hS Qw (λt w' h1 h2=>⟨t,rfl,h1,h2⟩) (L-0) 0 L a _ _ rfl (xzl _) (Int.le_refl _) (by omega) (.inl rfl) (by simp[szT]) (But.refl _ _) a3 a8 a9 mJ
end
end Go.Proofs.YtkpekiajdlolnabGreat.Ph
namespace Go.Proofs.YtkpekiajdlolnabGreat
open Go.RowKit Go.Maps
section
variable {w:ac}
def xC (a:Int) (n:Nat):Nat:=((if a<0 then -(a+1)else a).toNat)%n
theorem XC (a:Int) (n:Nat) (hn:0<n) (Gg:n<=4398046511104) (h1: -9223372036854775808<=a) (h2:a<=9223372036854775807):
  aB prog 23 #[.int .i64 a,.int .i64 n] w λe w'=>(e=.returned (.int .i64 (xC a n:Nat))/\w'=w):=by
 have Qw:¬n=0:=by omega
 by_cases h:a<0
 ·have g1:decide (a<0)=true:=xdt h;obtain⟨b,hb⟩:∃b:Nat,-(a+1)=b:=⟨(-(a+1)).toNat,by omega⟩
  have hp:xC a n=b%n:=by unfold xC;rw[if_pos h,hb];rfl
  rw[hp];obtain rfl:a= -(b:Int)-1:=by omega
  clear hp hb;go_enter func23,ntmps23;go_wp2;go_ret;exact⟨rfl,rfl⟩
 ·have g1:decide (a<0)=false:=xdf h;obtain⟨b,rfl⟩:∃b:Nat,a=b:=⟨a.toNat,by omega⟩
  have hp:xC b n=b%n:=by unfold xC;rw[if_neg h];rfl
  rw[hp];clear hp;go_enter func23,ntmps23;go_wp2;go_ret;exact⟨rfl,rfl⟩
theorem q52 (k:Int) (h:k<=5):aB prog 14 #[.int .i64 k] w λe w'=>(e=.returned (.int .i64 1)/\w'=w):=by
 have g1:decide (k<=5)=true:=xdt h;go_enter func14,ntmps14;go_wp2;go_ret;exact⟨rfl,rfl⟩
theorem Wj {v:aa} {l:KV} {base:Nat} (h:w.ownsRow base 74 2 v l.length (flat l)) (hg:v.ownBlock=some g) {p:Bs×Bs} (hp:l[j]?=some p):w.cell? ⟨g,j*2,none⟩=some (sv p.1)/\w.cell? ⟨g,j*2+1,none⟩=some (sv p.2):=by
 obtain⟨q1,q2⟩:=flat_get l j p hp;have d1:=h.cells hg _ _ q1;have d2:=h.cells hg _ _ q2;rw[aq,aG]at d1 d2;exact⟨d1,d2⟩
theorem jd4 {a b:aa} {l:KV} {ba bb:Nat} (ha:w.ownsRow ba 74 2 a l.length (flat l)) (hb:w.ownsRow bb 74 2 b l.length (flat l)) (hl:l.length<=1073741824):aB prog 29 #[a,b] w λe w'=>(e=.returned (.bool true)/\aA w.heap.size w w'):=by
 obtain⟨sa,ca,rfl⟩:∃sa ca,a=.slice sa l.length ca:=by
  rcases ha.2 with⟨rfl,hz⟩|⟨g,cap,cur,rfl,_⟩
  ·exact⟨none,0,by rw[hz]⟩
  ·exact⟨_,_,rfl⟩
 obtain⟨sb,cb,rfl⟩:∃sa ca,b=.slice sa l.length ca:=by
  rcases hb.2 with⟨rfl,hz⟩|⟨g,cap,cur,rfl,_⟩
  ·exact⟨none,0,by rw[hz]⟩
  ·exact⟨_,_,rfl⟩
 have zM:∀j,j<l.length->∃g,sa=some ⟨g,0,none⟩:=λj hj=>by
  rcases ha.2 with⟨h,hz⟩|⟨g,cap,cur,h,_⟩
  ·omega
  ·injection h with h1;exact⟨g,h1⟩
 have oC:∀j,j<l.length->∃g,sb=some ⟨g,0,none⟩:=λj hj=>by
  rcases hb.2 with⟨h,hz⟩|⟨g,cap,cur,h,_⟩
  ·omega
  ·injection h with h1;exact⟨g,h1⟩
 have HA:=Hd ha;have HB:=Hd hb;have Jw:=Hd zM;have yA:=Hd oC;clear ha hb zM oC;by_cases hz:l.length=0
 ·rw[hz];clear HA HB Jw yA;go_enter func29,ntmps29;go_wp2;refine aD 1 ?_;rw[ai];go_wp2;go_ret;exact⟨rfl,jg _ _⟩
 obtain⟨ga,rfl⟩:=Jw.o 0 (by omega);obtain⟨gb,rfl⟩:=yA.o 0 (by omega);clear Jw yA;go_enter func29,ntmps29;go_wp2;go_loopw [13] (λx wr=>∃j:Nat,j<=l.length/\x=.int .i64 j/\aA w.heap.size w wr) (λx _=>l.length-(intOf x).toNat);case atStart=>exact⟨0,xzl _,rfl,jg _ _⟩
 case round=>
  obtain⟨j,hj,rfl,zT⟩:=hrel;by_cases kR:j<l.length
  ·obtain⟨p,hp⟩:∃p,l[j]?=some p:=⟨_,aX kR⟩
   obtain⟨a1,a2⟩:=Wj HA.o (g:=ga) rfl hp;obtain⟨b1,b2⟩:=Wj HB.o (g:=gb) rfl hp;have a1:=(zT.cell (xbl w _ a1)).trans a1;have a2:=(zT.cell (xbl w _ a2)).trans a2;have b1:=(zT.cell (xbl w _ b1)).trans b1;have b2:=(zT.cell (xbl w _ b2)).trans b2;unfold sv at a1 a2 b1 b2;generalize (⟨p.1.toArray⟩:ByteArray)=pk at*;generalize (⟨p.2.toArray⟩:ByteArray)=pv at*;have Mg:(0:Int)<=(j:Int):=by omega
   have Gh:(j:Int)<((l.length:Nat):Int):=by omega
   go_wp2;go_quiet (fail);go_wp2;go_roundw;case rel=>exact⟨j+1,by omega,rfl,Below.drewN' zT _⟩
   case measure=>simp[intOf];omega
  ·obtain rfl:j=l.length:=by omega
   go_wp2;go_ret;exact⟨rfl,zT⟩
end
end Go.Proofs.YtkpekiajdlolnabGreat
namespace Go.Proofs.YtkpekiajdlolnabGreat.Ph
section
open Go.Conc Go.ConcN Go.RowKit Go.Maps Go.Conc.Lib Go Sim
section
variable {N:Blocks} {kv:List aa} {cs eX:List bg} {w:ac} {Z:bg->ac->Prop} {b:bg} {k:List Item} {n i j:Nat} {x:Nat->aa} {ops:Array Oper} {td:List Nat} {o:Oper}
theorem Eb {j:Nat} {og:Oper} (h:o.guard=some (g,t)) (hg:ops[g]?=some og) (hd:og.dst=some j) (hj:j<n) (hx:x j=aK):ah o (aJ ops (lay n x))=false:=by
 unfold ah;rw[h];have:aJ ops (lay n x) g=none:=by
  unfold aJ;rw[hg];simp only[Option.bind_some,hd,KD hj,hx];rfl
 simp only[this];rfl
theorem qf.GL {fn:Func} {args:Array aa} (ho:ops[i]?=some o) (hd:o.dst=some j) (hw:ah o (aJ ops (lay n x))=true) (hk:b.kind≠.early)
  (ev:∀w,(ae (evx n x) o).run XG.P w=.ok (.enter f args) w/\(ae (evx n x) o).events XG.P w #[]=#[]) (hf:XG.P.funcs[f]?=some fn)
  (ic:∀ρ,(∀v∈kv,VR XG.F ρ v v)->zm XG.F ρ args.toList args.toList)
  (lg:oz N kv f args w R) (nx:∀v w',R v w'->qf N kv cs (b.at ⟨lay n (upd x j v),[]⟩ (.inRegion ops td::k)) w' eX Z):qf N kv cs (b.at ⟨lay n x,[]⟩ (.inRegion ops (i::td)::k)) w eX Z:=by
 refine qf.call ho hw hk ev hf (λρ _ hK _=>ic ρ hK) lg λv w' hr=>?_;rw[hd];show qf N kv cs (b.at ⟨(lay n x).setIfInBounds j v,[]⟩ _) w' eX Z;rw[xH];exact nx v w' hr
theorem DT {gV:Array bJ} {vs:Array aa} {tys:Array aI} (eU:o.op=.call {callee:=.value (.func f),args:=gV,argTypes:=tys}) (SI:e (.func f)=.func (.func f) #[] #[]) (ha:gV.toList.map e=vs.toList)
  (hc:∀w,(az f vs).run prog w=.ok (.enter f vs) w/\(az f vs).events prog w #[]=#[]):∀w,(ae e o).run XG.P w=.ok (.enter f vs) w/\(ae e o).events XG.P w #[]=#[]:=λw=>by
 have QJ:gV.map e=vs:=by apply Array.ext';simpa using ha
 have hx:ae e o=az f vs:=by
  unfold ae;simp[go_sem,eU,resolve,invoke,SI,QJ]
 rw[hx];exact hc w
theorem Ku {fn:Func} {r:Nat} (h:fn.results=#[.tmp r]) (T:Array aa) (w:ac):(results fn T).runT prog w #[]=(.ok (T.getD r aK) w,#[]):=by
 simp[results,h,go_sem]
theorem oz.of1 {fn:Func} {args:Array aa} {r:Nat} (gB:blG f=false) (uP:fb f=true) (uO:XG.P.funcs[f]?=some fn) (h:fn.results=#[.tmp r]) (hS:∀v w wc,Same w wc->R v w->R v wc)
  (hc:∀wc,Same w wc->aB XG.P f args wc fun|.returned v,w'=>R v w'|_,_=>False):oz N kv f args w R:=
 oz.of gB uP uO (λT=>⟨_,λw=>Ku h T w⟩) (λρ T v w hT hr=>by
  have:=congrArg Prod.fst (Ku h T w);rw[Sem.runT_fst]at this;have e:(results fn T).run XG.P w=.ok (T.getD r aK) w:=this;rw[hr]at e;cases e
  exact hT.Dt r) hS hc
end
def ou (k:Int):Int:=if k<=5 then 1 else if k<=9 then 2 else if k=10\/k=12 then 3 else 4
theorem q9x (w:ac) (k:Int):aB prog 14 #[.int .i64 k] w λe w'=>(e=.returned (.int .i64 (ou k))/\w'=w):=by
 by_cases h5:k<=5
 ·rw[show ou k=1 by unfold ou;rw[if_pos h5]];exact q52 k h5
 have g1:decide (k<=5)=false:=xdf h5;by_cases h9:k<=9
 ·have g2:decide (k<=9)=true:=xdt h9;rw[show ou k=2 by unfold ou;rw[if_neg h5,if_pos h9]];clear h5 h9;go_enter func14,ntmps14;go_wp2;go_ret;exact⟨rfl,rfl⟩
 have g2:decide (k<=9)=false:=xdf h9;by_cases iQ:k=10
 ·subst iQ;rw[show ou 10=3 from rfl];clear h5 h9;go_enter func14,ntmps14;go_wp2;go_ret;exact⟨rfl,rfl⟩
 by_cases iy:k=12
 ·subst iy;rw[show ou 12=3 from rfl];clear h5 h9 iQ;go_enter func14,ntmps14;go_wp2;go_ret;exact⟨rfl,rfl⟩
 rw[show ou k=4 by unfold ou;rw[if_neg h5,if_neg h9,if_neg (by omega)]];have g3:decide (k=10)=false:=xdf iQ;have g4:decide (k=12)=false:=xdf iy;have g5:(k==10)=false:=by simpa using iQ
 have g6:(k==12)=false:=by simpa using iy
 clear h5 h9 iQ iy;go_enter func14,ntmps14;go_wp2;go_ret;exact⟨rfl,rfl⟩
section
variable {N:Blocks} {kv:List aa} {w:ac}
abbrev fSt:cn:=14
theorem UR (k:Int):oz N kv fSt #[.int .i64 k] w λv w'=>v=.int .i64 (ou k)/\Same w w':=
 oz.of1 (r:=2) rfl rfl func14 rfl (λv w1 wc s h=>⟨h.1,h.2.trans s⟩) λwc s=>(q9x wc k).mono λe w' ⟨h1,h2⟩=>by subst h1;subst h2;exact⟨rfl,s⟩
theorem Wu (vs:Array aa) (w:ac):(az fSt vs).run prog w=.ok (.enter fSt vs) w/\(az fSt vs).events prog w #[]=#[]:=by
 have hf:=func14;constructor<;>simp[az,go_sem,hf,Tryz.f14]
theorem q0j (vs:Array aa) (w:ac):(az fT vs).run prog w=.ok (.enter fT vs) w/\(az fT vs).events prog w #[]=#[]:=by
 have hf:=func15;constructor<;>simp[az,go_sem,hf,Tryz.f15]
abbrev fLk:cn:=16
theorem WC (vs:Array aa) (w:ac):(az fLk vs).run prog w=.ok (.enter fLk vs) w/\(az fLk vs).events prog w #[]=#[]:=by
 have hf:=func16;constructor<;>simp[az,go_sem,hf,Tryz.f16]
end
abbrev fU:cn:=11
def bU:bg:=base fU
theorem qh:blG bU.fn=true:=rfl
theorem jf:bU.kind≠.early:=by decide
noncomputable def uB:Code:=(Tryz.f11.body).getD .skip
noncomputable def uL:Code:=match uB with|.seq _ (.seq _ (.seq (.seq _ (.block _ (.loop c))) _))=>c|_=>.skip
noncomputable def uI:Code:=match uL with|.seq _ (.seq _ (.seq (.block _ c) _))=>c|_=>.skip
noncomputable def U0:Array Oper:=match uB with|.seq a _=>rg a|_=>#[]
noncomputable def U1:Array Oper:=match uB with|.seq _ (.seq a _)=>rg a|_=>#[]
noncomputable def U2:Array Oper:=match uB with|.seq _ (.seq _ (.seq (.seq a _) _))=>rg a|_=>#[]
noncomputable def U12:Array Oper:=match uB with|.seq _ (.seq _ (.seq _ (.seq a _)))=>rg a|_=>#[]
noncomputable def U3:Array Oper:=match uL with|.seq a _=>rg a|_=>#[]
noncomputable def U11:Array Oper:=match uL with|.seq _ (.seq _ (.seq _ a))=>rg a|_=>#[]
noncomputable def U4:Array Oper:=match uI with|.seq a _=>rg a|_=>#[]
noncomputable def U5:Array Oper:=match uI with|.seq _ (.seq (.seq a _) _)=>rg a|_=>#[]
noncomputable def U6:Array Oper:=match uI with|.seq _ (.seq _ (.seq a _))=>rg a|_=>#[]
noncomputable def U7:Array Oper:=match uI with|.seq _ (.seq _ (.seq _ (.seq (.seq a _) _)))=>rg a|_=>#[]
noncomputable def U9:Array Oper:=match uI with|.seq _ (.seq _ (.seq _ (.seq _ (.seq a _))))=>rg a|_=>#[]
noncomputable def uQ7:Code:=match uI with|.seq _ (.seq _ (.seq _ (.seq (.seq _ (.cond _ c _)) _)))=>c|_=>.skip
noncomputable def uQ9:Code:=match uI with|.seq _ (.seq _ (.seq _ (.seq _ (.seq _ (.cond _ c _)))))=>c|_=>.skip
theorem jj6:uB=.seq (.region 0 U0 false) (.seq (.region 1 U1 false) (.seq (.seq (.region 2 U2 false) (.block 0 (.loop uL))) (.seq (.region 12 U12 false) .ret))):=rfl
theorem O7:uL=.seq (.region 3 U3 false) (.seq (.cond (.tmp 14) .skip (.exit 0)) (.seq (.block 1 uI) (.region 11 U11 false))):=rfl
theorem jj7:uI=.seq (.region 4 U4 false) (.seq (.seq (.region 5 U5 false) (.cond (.tmp 27) (.exit 1) .skip)) (.seq (.region 6 U6 false) (.seq (.seq (.region 7 U7 false) (.cond (.tmp 57) uQ7 .skip)) (.seq (.region 9 U9 false) (.cond (.tmp 69) uQ9 .skip))))):=rfl
theorem q5g:∀{x:Nat->aa} {v:aa},x 4=v->∀w,(results Tryz.f11 (lay 72 x)).runT XG.P w #[]=(.ok v w,#[]):=λ{x v} h w=>by
 have:=Ku (fn:=Tryz.f11) (r:=4) rfl (lay 72 x) w;rw[Ol (by decide),h]at this;exact this
section
variable {N:Blocks} {kv:List aa} {cs eX:List bg} {w:ac} {Z:bg->ac->Prop} {K:List Item} {x:Nat->aa} {sp:Option Addr} {L cp i ob n0 Wb g o0:Nat} {c:Int} {o:OpV}
theorem u0 (h0:x 0=.slice sp L cp) (h1:x 1=.int .i64 c) (nx:∀(y:Nat->aa),y 0=.slice sp L cp->y 1=.int .i64 c->qf N kv cs (bU.at ⟨lay 72 y,[]⟩ K) w eX Z):qf N kv cs (bU.at ⟨lay 72 x,[]⟩ (.code (.region 0 U0 false)::K)) w eX Z:=by
 refine qf.region ?_;change qf N kv cs (bU.at ⟨lay 72 x,[]⟩ (.inRegion U0 [0]::K)) w eX Z;refine qf.bv qh jf (.int .i64 0) rfl rfl (qb rfl) (Pure.assign rfl rfl) ?_;exact qf.regionEnd (nx _ h0 h1)
theorem u1 (h0:x 0=.slice sp L cp) (h1:x 1=.int .i64 c) (nx:∀y:Nat->aa,y 0=.slice sp L cp->y 1=.int .i64 c->y 5=.pointer (some ⟨w.heap.size,0,none⟩)->qf N (.pointer (some ⟨w.heap.size,0,none⟩)::kv) cs (bU.at ⟨lay 72 y,[]⟩ K) (w.alloc (.cells #[.slice none 0 0,.slice none 0 0,.slice none 0 0,.bool false] 36)) eX Z):qf N kv cs (bU.at ⟨lay 72 x,[]⟩ (.code (.region 1 U1 false)::K)) w eX Z:=by
 refine qf.region ?_;change qf N kv cs (bU.at ⟨lay 72 x,[]⟩ (.inRegion U1 [0,1,2]::K)) w eX Z;refine qf.bv qh jf (.agg #[.slice none 0 0,.slice none 0 0,.slice none 0 0,.bool false]) rfl rfl (qb rfl) (Pure.jb8 rfl) ?_;refine qf.bbox (l:=[.slice none 0 0,.slice none 0 0,.slice none 0 0,.bool false]) qh jf rfl rfl rfl (qb rfl) (by decide) rfl (λρ=>.agg (.cons (.jv _ _) (.cons (.jv _ _) (.cons (.jv _ _) (.cons (.bool _) .nil))))) ?_;refine qf.bv qh jf (.pointer (some ⟨w.heap.size,0,none⟩)) rfl rfl (qb rfl) (Pure.assign rfl (qy rfl)) ?_;exact qf.regionEnd (nx _ h0 h1 rfl)
theorem u2 (h0:x 0=.slice sp L cp) (h1:x 1=.int .i64 c) (h5:x 5=.pointer (some ⟨Wb,0,none⟩)) (nx:∀(y:Nat->aa),y 1=.int .i64 c->y 5=.pointer (some ⟨Wb,0,none⟩)->y 11=.slice sp L cp->y 12=.int .i64 L->y 13=.int .i64 (0:Nat)->qf N kv cs (bU.at ⟨lay 72 y,[]⟩ K) w eX Z):qf N kv cs (bU.at ⟨lay 72 x,[]⟩ (.code (.region 2 U2 false)::K)) w eX Z:=by
 refine qf.region ?_;change qf N kv cs (bU.at ⟨lay 72 x,[]⟩ (.inRegion U2 [0,1,2]::K)) w eX Z;refine qf.bv qh jf (.slice sp L cp) rfl rfl (qb rfl) (Pure.move rfl (qy h0)) ?_;refine qf.bv qh jf (.int .i64 L) rfl rfl (qb rfl) (Pure.Qc rfl (qy rfl)) ?_;refine qf.bv qh jf (.int .i64 0) rfl rfl (qb rfl) (Pure.move rfl rfl) ?_;exact qf.regionEnd (nx _ h1 h5 rfl rfl rfl)
theorem u3 (h1:x 1=.int .i64 c) (h5:x 5=.pointer (some ⟨Wb,0,none⟩)) (jA:x 11=.slice sp L cp) (iy:x 12=.int .i64 L) (jY:x 13=.int .i64 i) (ht:decide ((i:Int)<L)=t) (nx:∀(y:Nat->aa),y 1=.int .i64 c->y 5=.pointer (some ⟨Wb,0,none⟩)->y 11=.slice sp L cp->y 12=.int .i64 L->y 13=.int .i64 i->y 14=.bool t->qf N kv cs (bU.at ⟨lay 72 y,[]⟩ K) w eX Z):qf N kv cs (bU.at ⟨lay 72 x,[]⟩ (.code (.region 3 U3 false)::K)) w eX Z:=by
 refine qf.region ?_;change qf N kv cs (bU.at ⟨lay 72 x,[]⟩ (.inRegion U3 [0]::K)) w eX Z;refine qf.bv qh jf (.bool t) rfl rfl (qb rfl) (Pure.lss rfl (qy jY) (qy iy) ht) ?_;exact qf.regionEnd (nx _ h1 h5 jA iy jY rfl)
theorem u4 (h1:x 1=.int .i64 c) (h5:x 5=.pointer (some ⟨Wb,0,none⟩)) (jA:x 11=.slice (some ⟨g,o0,none⟩) L cp) (iy:x 12=.int .i64 L) (jY:x 13=.int .i64 i) (hi:i<L) (hN:N g) (eH:g<w.heap.size) (hc:∀(j:Nat) v,o.cells.toList[j]?=some v->w.cell? ⟨g,o0+i*10+j,none⟩=some v) (nx:∀(y:Nat->aa),y 1=.int .i64 c->y 5=.pointer (some ⟨Wb,0,none⟩)->y 11=.slice (some ⟨g,o0,none⟩) L cp->y 12=.int .i64 L->y 13=.int .i64 i->y 6=.int .i64 i->y 7=.pointer (some ⟨w.heap.size,0,none⟩)->qf N (.pointer (some ⟨w.heap.size,0,none⟩)::kv) cs (bU.at ⟨lay 72 y,[]⟩ K) (w.alloc (.cells o.cells 30)) eX Z):qf N kv cs (bU.at ⟨lay 72 x,[]⟩ (.code (.region 4 U4 false)::K)) w eX Z:=by
 refine qf.region ?_;change qf N kv cs (bU.at ⟨lay 72 x,[]⟩ (.inRegion U4 [0,1,2,3,4,5]::K)) w eX Z;refine qf.bv qh jf (.int .i64 i) rfl rfl (qb rfl) (Pure.move rfl (qy jY)) ?_;refine qf.bv qh jf (.pointer (some ⟨g,o0+i*10,none⟩)) rfl rfl (qb rfl) (Pure.idx rfl (qy jA) (qy jY) hi) ?_;refine qf.look (l:=o.cells.toList) qh jf rfl rfl (qb rfl) (qy rfl) hN PD PX eH (λj v hj=>by rw[aq];exact hc j v hj) (λρ=>Ig o _ ρ) ?_;change qf N kv cs (bU.at ⟨(lay 72 _).setIfInBounds 17 _,[]⟩ _) w eX Z;rw[xH];refine qf.Ya qh jf rfl rfl rfl (qb rfl) (by kernel_rfl) Xo ?_;refine qf.bv qh jf (.int .i64 i) rfl rfl (qb rfl) (Pure.assign rfl (qy rfl)) ?_;refine qf.X4 (w0:=w) (z:=[.int .i64 0,.int .i64 0,.int .i64 0,.int .i64 0,.int .i64 0,.int .i64 0,.int .i64 0,.string ⟨#[]⟩,.string ⟨#[]⟩,.string ⟨#[]⟩]) (l:=o.cells.toList) qh jf rfl rfl rfl (qb rfl) (by decide) rfl (by decide) rfl (.head _) (λρ=>Ig o _ ρ) rfl Xr rfl rfl ?_;exact qf.regionEnd (nx _ h1 h5 jA iy jY rfl rfl)
theorem u5n (h1:x 1=.int .i64 c) (h5:x 5=.pointer (some ⟨Wb,0,none⟩)) (jA:x 11=.slice sp L cp) (iy:x 12=.int .i64 L) (jY:x 13=.int .i64 i) (h6:x 6=.int .i64 i) (h7:x 7=.pointer (some ⟨ob,0,none⟩)) (iF:.pointer (some ⟨ob,0,none⟩)∈kv) (c0:w.cell? ⟨ob,0,none⟩=some (.int .i64 o.k)) (hc:(c !=0)=true) (ht:decide (ou c<ou o.k)=t) (nx:∀(y:Nat->aa) (w':ac) (_:Same w w'),y 1=.int .i64 c->y 5=.pointer (some ⟨Wb,0,none⟩)->y 11=.slice sp L cp->y 12=.int .i64 L->y 13=.int .i64 i->y 6=.int .i64 i->y 7=.pointer (some ⟨ob,0,none⟩)->y 27=.bool t->qf N kv cs (bU.at ⟨lay 72 y,[]⟩ K) w' eX Z):qf N kv cs (bU.at ⟨lay 72 x,[]⟩ (.code (.region 5 U5 false)::K)) w eX Z:=by
 refine qf.region ?_;change qf N kv cs (bU.at ⟨lay 72 x,[]⟩ (.inRegion U5 [0,1,2,3,4,5,6,7,8,9]::K)) w eX Z;refine qf.bv qh jf (.int .i64 c) rfl rfl (qb rfl) (Pure.move rfl (qy h1)) ?_;refine qf.bv qh jf (.bool true) rfl rfl (qb rfl) (Pure.neq rfl (qy rfl) rfl hc) ?_;refine qf.bv qh jf (.bool true) rfl rfl (qb rfl) (Pure.move rfl (qy rfl)) ?_;refine qf.bv qh jf (.pointer (some ⟨ob,0,none⟩)) rfl rfl (qd rfl rfl rfl (by decide) rfl rfl) (Pure.fOp 0 (by decide) rfl (qy h7)) ?_;refine qf.BU qh jf rfl rfl rfl (qd rfl rfl rfl (by decide) rfl rfl) (by decide) rfl iF GU c0 ?_;refine qf.GL rfl rfl (qd rfl rfl rfl (by decide) rfl rfl) jf (DT (vs:=#[.int .i64 o.k]) rfl rfl (congrArg (λv=>[v]) (qy rfl)) (Wu _)) func14 (λρ _=>.cons (.int _ _) .nil) (UR o.k) ?_;rintro _ wa ⟨rfl,swa⟩;refine qf.bv qh jf (.int .i64 c) rfl rfl (qd rfl rfl rfl (by decide) rfl rfl) (Pure.move rfl (qy h1)) ?_;refine qf.GL rfl rfl (qd rfl rfl rfl (by decide) rfl rfl) jf (DT (vs:=#[.int .i64 c]) rfl rfl (congrArg (λv=>[v]) (qy rfl)) (Wu _)) func14 (λρ _=>.cons (.int _ _) .nil) (UR c) ?_;rintro _ wb ⟨rfl,swb⟩;refine qf.bv qh jf (.bool t) rfl rfl (qd rfl rfl rfl (by decide) rfl rfl) (Pure.gtr rfl (qy rfl) (qy rfl) ht) ?_;refine qf.bv qh jf (.bool t) rfl rfl (qb rfl) (Pure.Ar rfl (qy rfl) (qy rfl)) ?_;exact qf.regionEnd (nx _ _ (swa.trans swb) h1 h5 jA iy jY h6 h7 rfl)
theorem u5z (h1:x 1=.int .i64 c) (h5:x 5=.pointer (some ⟨Wb,0,none⟩)) (jA:x 11=.slice sp L cp) (iy:x 12=.int .i64 L) (jY:x 13=.int .i64 i) (h6:x 6=.int .i64 i) (h7:x 7=.pointer (some ⟨ob,0,none⟩)) (hc:(c !=0)=false) (nx:∀(y:Nat->aa),y 1=.int .i64 c->y 5=.pointer (some ⟨Wb,0,none⟩)->y 11=.slice sp L cp->y 12=.int .i64 L->y 13=.int .i64 i->y 6=.int .i64 i->y 7=.pointer (some ⟨ob,0,none⟩)->y 27=.bool false->qf N kv cs (bU.at ⟨lay 72 y,[]⟩ K) w eX Z):qf N kv cs (bU.at ⟨lay 72 x,[]⟩ (.code (.region 5 U5 false)::K)) w eX Z:=by
 refine qf.region ?_;change qf N kv cs (bU.at ⟨lay 72 x,[]⟩ (.inRegion U5 [0,1,2,3,4,5,6,7,8,9]::K)) w eX Z;refine qf.bv qh jf (.int .i64 c) rfl rfl (qb rfl) (Pure.move rfl (qy h1)) ?_;refine qf.bv qh jf (.bool false) rfl rfl (qb rfl) (Pure.neq rfl (qy rfl) rfl hc) ?_;refine qf.bv qh jf (.bool false) rfl rfl (qb rfl) (Pure.move rfl (qy rfl)) ?_;refine qf.bu qh rfl rfl (qd rfl rfl rfl (by decide) rfl rfl) ?_;refine qf.bu qh rfl rfl (qd rfl rfl rfl (by decide) rfl rfl) ?_;refine qf.bu qh rfl rfl (qd rfl rfl rfl (by decide) rfl rfl) ?_;refine qf.bu qh rfl rfl (qd rfl rfl rfl (by decide) rfl rfl) ?_;refine qf.bu qh rfl rfl (qd rfl rfl rfl (by decide) rfl rfl) ?_;refine qf.bu qh rfl rfl (qd rfl rfl rfl (by decide) rfl rfl) ?_;refine qf.bv qh jf (.bool false) rfl rfl (qb rfl) (Pure.wH rfl (qy rfl) rfl) ?_;exact qf.regionEnd (nx _ h1 h5 jA iy jY h6 h7 rfl)
theorem u6a (h1:x 1=.int .i64 c) (h5:x 5=.pointer (some ⟨Wb,0,none⟩)) (jA:x 11=.slice sp L cp) (iy:x 12=.int .i64 L) (jY:x 13=.int .i64 i) (h6:x 6=.int .i64 i) (h7:x 7=.pointer (some ⟨ob,0,none⟩)) (iF:.pointer (some ⟨ob,0,none⟩)∈kv) (c0:w.cell? ⟨ob,0,none⟩=some (.int .i64 o.k)) (hc:(c==0)=false) (hu:(o.k==c)=true) (nx:∀(y:Nat->aa),y 1=.int .i64 c->y 5=.pointer (some ⟨Wb,0,none⟩)->y 11=.slice sp L cp->y 12=.int .i64 L->y 13=.int .i64 i->y 6=.int .i64 i->y 7=.pointer (some ⟨ob,0,none⟩)->qf N kv cs (bU.at ⟨lay 72 y,[]⟩ K) w eX Z):qf N kv cs (bU.at ⟨lay 72 x,[]⟩ (.code (.region 6 U6 false)::K)) w eX Z:=by
 refine qf.region ?_;change qf N kv cs (bU.at ⟨lay 72 x,[]⟩ (.inRegion U6 [0,1,2,3,4,5,6,7,8,9,10,11,12,13,14,15,16,17]::K)) w eX Z;refine qf.bv qh jf (.int .i64 c) rfl rfl (qb rfl) (Pure.move rfl (qy h1)) ?_;refine qf.bv qh jf (.bool false) rfl rfl (qb rfl) (Pure.eql rfl (qy rfl) rfl hc) ?_;refine qf.bv qh jf (.bool false) rfl rfl (qb rfl) (Pure.move rfl (qy rfl)) ?_;refine qf.bv qh jf (.pointer (some ⟨ob,0,none⟩)) rfl rfl (qd rfl rfl rfl (by decide) rfl rfl) (Pure.fOp 0 (by decide) rfl (qy h7)) ?_;refine qf.BU qh jf rfl rfl rfl (qd rfl rfl rfl (by decide) rfl rfl) (by decide) rfl iF GU c0 ?_;refine qf.bv qh jf (.int .i64 c) rfl rfl (qd rfl rfl rfl (by decide) rfl rfl) (Pure.move rfl (qy h1)) ?_;refine qf.bv qh jf (.bool true) rfl rfl (qd rfl rfl rfl (by decide) rfl rfl) (Pure.eql rfl (qy rfl) (qy rfl) hu) ?_;refine qf.bv qh jf (.bool true) rfl rfl (qb rfl) (Pure.wH rfl (qy rfl) (qy rfl)) ?_;refine qf.bv qh jf (.bool true) rfl rfl (qb rfl) (Pure.move rfl (qy rfl)) ?_;refine qf.bu qh rfl rfl (qd rfl rfl rfl (by decide) rfl rfl) ?_;refine qf.bu qh rfl rfl (qd rfl rfl rfl (by decide) rfl rfl) ?_;refine qf.bu qh rfl rfl (qd rfl rfl rfl (by decide) rfl rfl) ?_;refine qf.bu qh rfl rfl (Eb rfl rfl rfl (by decide) rfl) ?_;refine qf.bu qh rfl rfl (Eb rfl rfl rfl (by decide) rfl) ?_;refine qf.bu qh rfl rfl (Eb rfl rfl rfl (by decide) rfl) ?_;refine qf.bu qh rfl rfl (qd rfl rfl rfl (by decide) rfl rfl) ?_;refine qf.bv qh jf (.bool true) rfl rfl (qb rfl) (Pure.Ar rfl (qy rfl) rfl) ?_;refine qf.bv qh jf (.bool true) rfl rfl (qb rfl) (Pure.assign rfl (qy rfl)) ?_;exact qf.regionEnd (nx _ h1 h5 jA iy jY h6 h7)
theorem u6b (h1:x 1=.int .i64 c) (h5:x 5=.pointer (some ⟨Wb,0,none⟩)) (jA:x 11=.slice sp L cp) (iy:x 12=.int .i64 L) (jY:x 13=.int .i64 i) (h6:x 6=.int .i64 i) (h7:x 7=.pointer (some ⟨ob,0,none⟩)) (iF:.pointer (some ⟨ob,0,none⟩)∈kv) (c0:w.cell? ⟨ob,0,none⟩=some (.int .i64 o.k)) (hc:(c==0)=false) (hu:(o.k==c)=false) (hs:(c== -1)=false) (nx:∀(y:Nat->aa),y 1=.int .i64 c->y 5=.pointer (some ⟨Wb,0,none⟩)->y 11=.slice sp L cp->y 12=.int .i64 L->y 13=.int .i64 i->y 6=.int .i64 i->y 7=.pointer (some ⟨ob,0,none⟩)->qf N kv cs (bU.at ⟨lay 72 y,[]⟩ K) w eX Z):qf N kv cs (bU.at ⟨lay 72 x,[]⟩ (.code (.region 6 U6 false)::K)) w eX Z:=by
 refine qf.region ?_;change qf N kv cs (bU.at ⟨lay 72 x,[]⟩ (.inRegion U6 [0,1,2,3,4,5,6,7,8,9,10,11,12,13,14,15,16,17]::K)) w eX Z;refine qf.bv qh jf (.int .i64 c) rfl rfl (qb rfl) (Pure.move rfl (qy h1)) ?_;refine qf.bv qh jf (.bool false) rfl rfl (qb rfl) (Pure.eql rfl (qy rfl) rfl hc) ?_;refine qf.bv qh jf (.bool false) rfl rfl (qb rfl) (Pure.move rfl (qy rfl)) ?_;refine qf.bv qh jf (.pointer (some ⟨ob,0,none⟩)) rfl rfl (qd rfl rfl rfl (by decide) rfl rfl) (Pure.fOp 0 (by decide) rfl (qy h7)) ?_;refine qf.BU qh jf rfl rfl rfl (qd rfl rfl rfl (by decide) rfl rfl) (by decide) rfl iF GU c0 ?_;refine qf.bv qh jf (.int .i64 c) rfl rfl (qd rfl rfl rfl (by decide) rfl rfl) (Pure.move rfl (qy h1)) ?_;refine qf.bv qh jf (.bool false) rfl rfl (qd rfl rfl rfl (by decide) rfl rfl) (Pure.eql rfl (qy rfl) (qy rfl) hu) ?_;refine qf.bv qh jf (.bool false) rfl rfl (qb rfl) (Pure.wH rfl (qy rfl) (qy rfl)) ?_;refine qf.bv qh jf (.bool false) rfl rfl (qb rfl) (Pure.move rfl (qy rfl)) ?_;refine qf.bv qh jf (.int .i64 c) rfl rfl (qd rfl rfl rfl (by decide) rfl rfl) (Pure.move rfl (qy h1)) ?_;refine qf.bv qh jf (.bool false) rfl rfl (qd rfl rfl rfl (by decide) rfl rfl) (Pure.eql rfl (qy rfl) rfl hs) ?_;refine qf.bv qh jf (.bool false) rfl rfl (qd rfl rfl rfl (by decide) rfl rfl) (Pure.move rfl (qy rfl)) ?_;refine qf.bu qh rfl rfl (qd rfl rfl rfl (by decide) rfl rfl) ?_;refine qf.bu qh rfl rfl (qd rfl rfl rfl (by decide) rfl rfl) ?_;refine qf.bu qh rfl rfl (qd rfl rfl rfl (by decide) rfl rfl) ?_;refine qf.bv qh jf (.bool false) rfl rfl (qd rfl rfl rfl (by decide) rfl rfl) (Pure.wH rfl (qy rfl) rfl) ?_;refine qf.bv qh jf (.bool false) rfl rfl (qb rfl) (Pure.wH rfl (qy rfl) (qy rfl)) ?_;refine qf.bv qh jf (.bool false) rfl rfl (qb rfl) (Pure.assign rfl (qy rfl)) ?_;exact qf.regionEnd (nx _ h1 h5 jA iy jY h6 h7)
theorem u6c (h1:x 1=.int .i64 c) (h5:x 5=.pointer (some ⟨Wb,0,none⟩)) (jA:x 11=.slice sp L cp) (iy:x 12=.int .i64 L) (jY:x 13=.int .i64 i) (h6:x 6=.int .i64 i) (h7:x 7=.pointer (some ⟨ob,0,none⟩)) (iF:.pointer (some ⟨ob,0,none⟩)∈kv) (c0:w.cell? ⟨ob,0,none⟩=some (.int .i64 o.k)) (hc:(c==0)=false) (hu:(o.k==c)=false) (hs:(c== -1)=true) {r:Bool} (hr:(o.k==5)=r) (nx:∀(y:Nat->aa),y 1=.int .i64 c->y 5=.pointer (some ⟨Wb,0,none⟩)->y 11=.slice sp L cp->y 12=.int .i64 L->y 13=.int .i64 i->y 6=.int .i64 i->y 7=.pointer (some ⟨ob,0,none⟩)->qf N kv cs (bU.at ⟨lay 72 y,[]⟩ K) w eX Z):qf N kv cs (bU.at ⟨lay 72 x,[]⟩ (.code (.region 6 U6 false)::K)) w eX Z:=by
 refine qf.region ?_;change qf N kv cs (bU.at ⟨lay 72 x,[]⟩ (.inRegion U6 [0,1,2,3,4,5,6,7,8,9,10,11,12,13,14,15,16,17]::K)) w eX Z;refine qf.bv qh jf (.int .i64 c) rfl rfl (qb rfl) (Pure.move rfl (qy h1)) ?_;refine qf.bv qh jf (.bool false) rfl rfl (qb rfl) (Pure.eql rfl (qy rfl) rfl hc) ?_;refine qf.bv qh jf (.bool false) rfl rfl (qb rfl) (Pure.move rfl (qy rfl)) ?_;refine qf.bv qh jf (.pointer (some ⟨ob,0,none⟩)) rfl rfl (qd rfl rfl rfl (by decide) rfl rfl) (Pure.fOp 0 (by decide) rfl (qy h7)) ?_;refine qf.BU qh jf rfl rfl rfl (qd rfl rfl rfl (by decide) rfl rfl) (by decide) rfl iF GU c0 ?_;refine qf.bv qh jf (.int .i64 c) rfl rfl (qd rfl rfl rfl (by decide) rfl rfl) (Pure.move rfl (qy h1)) ?_;refine qf.bv qh jf (.bool false) rfl rfl (qd rfl rfl rfl (by decide) rfl rfl) (Pure.eql rfl (qy rfl) (qy rfl) hu) ?_;refine qf.bv qh jf (.bool false) rfl rfl (qb rfl) (Pure.wH rfl (qy rfl) (qy rfl)) ?_;refine qf.bv qh jf (.bool false) rfl rfl (qb rfl) (Pure.move rfl (qy rfl)) ?_;refine qf.bv qh jf (.int .i64 c) rfl rfl (qd rfl rfl rfl (by decide) rfl rfl) (Pure.move rfl (qy h1)) ?_;refine qf.bv qh jf (.bool true) rfl rfl (qd rfl rfl rfl (by decide) rfl rfl) (Pure.eql rfl (qy rfl) rfl hs) ?_;refine qf.bv qh jf (.bool true) rfl rfl (qd rfl rfl rfl (by decide) rfl rfl) (Pure.move rfl (qy rfl)) ?_;refine qf.bv qh jf (.pointer (some ⟨ob,0,none⟩)) rfl rfl (qd rfl rfl rfl (by decide) rfl rfl) (Pure.fOp 0 (by decide) rfl (qy h7)) ?_;refine qf.BU qh jf rfl rfl rfl (qd rfl rfl rfl (by decide) rfl rfl) (by decide) rfl iF GU c0 ?_;refine qf.bv qh jf (.bool r) rfl rfl (qd rfl rfl rfl (by decide) rfl rfl) (Pure.eql rfl (qy rfl) rfl hr) ?_;refine qf.bv qh jf (.bool r) rfl rfl (qd rfl rfl rfl (by decide) rfl rfl) (Pure.Ar rfl (qy rfl) (qy rfl)) ?_;refine qf.bv qh jf (.bool r) rfl rfl (qb rfl) (Pure.wH rfl (qy rfl) (qy rfl)) ?_;refine qf.bv qh jf (.bool r) rfl rfl (qb rfl) (Pure.assign rfl (qy rfl)) ?_;exact qf.regionEnd (nx _ h1 h5 jA iy jY h6 h7)
theorem u6d (h1:x 1=.int .i64 c) (h5:x 5=.pointer (some ⟨Wb,0,none⟩)) (jA:x 11=.slice sp L cp) (iy:x 12=.int .i64 L) (jY:x 13=.int .i64 i) (h6:x 6=.int .i64 i) (h7:x 7=.pointer (some ⟨ob,0,none⟩)) (hc:(c==0)=true) (nx:∀(y:Nat->aa),y 1=.int .i64 c->y 5=.pointer (some ⟨Wb,0,none⟩)->y 11=.slice sp L cp->y 12=.int .i64 L->y 13=.int .i64 i->y 6=.int .i64 i->y 7=.pointer (some ⟨ob,0,none⟩)->qf N kv cs (bU.at ⟨lay 72 y,[]⟩ K) w eX Z):qf N kv cs (bU.at ⟨lay 72 x,[]⟩ (.code (.region 6 U6 false)::K)) w eX Z:=by
 refine qf.region ?_;change qf N kv cs (bU.at ⟨lay 72 x,[]⟩ (.inRegion U6 [0,1,2,3,4,5,6,7,8,9,10,11,12,13,14,15,16,17]::K)) w eX Z;refine qf.bv qh jf (.int .i64 c) rfl rfl (qb rfl) (Pure.move rfl (qy h1)) ?_;refine qf.bv qh jf (.bool true) rfl rfl (qb rfl) (Pure.eql rfl (qy rfl) rfl hc) ?_;refine qf.bv qh jf (.bool true) rfl rfl (qb rfl) (Pure.move rfl (qy rfl)) ?_;refine qf.bu qh rfl rfl (qd rfl rfl rfl (by decide) rfl rfl) ?_;refine qf.bu qh rfl rfl (qd rfl rfl rfl (by decide) rfl rfl) ?_;refine qf.bu qh rfl rfl (qd rfl rfl rfl (by decide) rfl rfl) ?_;refine qf.bu qh rfl rfl (qd rfl rfl rfl (by decide) rfl rfl) ?_;refine qf.bv qh jf (.bool true) rfl rfl (qb rfl) (Pure.Ar rfl (qy rfl) rfl) ?_;refine qf.bv qh jf (.bool true) rfl rfl (qb rfl) (Pure.move rfl (qy rfl)) ?_;refine qf.bu qh rfl rfl (qd rfl rfl rfl (by decide) rfl rfl) ?_;refine qf.bu qh rfl rfl (qd rfl rfl rfl (by decide) rfl rfl) ?_;refine qf.bu qh rfl rfl (qd rfl rfl rfl (by decide) rfl rfl) ?_;refine qf.bu qh rfl rfl (Eb rfl rfl rfl (by decide) rfl) ?_;refine qf.bu qh rfl rfl (Eb rfl rfl rfl (by decide) rfl) ?_;refine qf.bu qh rfl rfl (Eb rfl rfl rfl (by decide) rfl) ?_;refine qf.bu qh rfl rfl (qd rfl rfl rfl (by decide) rfl rfl) ?_;refine qf.bv qh jf (.bool true) rfl rfl (qb rfl) (Pure.Ar rfl (qy rfl) rfl) ?_;refine qf.bv qh jf (.bool true) rfl rfl (qb rfl) (Pure.assign rfl (qy rfl)) ?_;exact qf.regionEnd (nx _ h1 h5 jA iy jY h6 h7)
theorem u7 (h1:x 1=.int .i64 c) (h5:x 5=.pointer (some ⟨Wb,0,none⟩)) (jA:x 11=.slice sp L cp) (iy:x 12=.int .i64 L) (jY:x 13=.int .i64 i) (h6:x 6=.int .i64 i) (h7:x 7=.pointer (some ⟨ob,0,none⟩)) {R:ac->Prop} (iF:.pointer (some ⟨ob,0,none⟩)∈kv) (uN:.pointer (some ⟨Wb,0,none⟩)∈kv) (hc:∀(j:Nat) v,o.cells.toList[j]?=some v->w.cell? ⟨ob,j,none⟩=some v) (hR:∀w w',Same w w'->R w->R w')
  (dS:yU N kv fT #[.pointer (some ⟨Wb,0,none⟩),.agg o.cells] w λv w'=>v=.bool true/\R w') (nx:∀(y:Nat->aa) (w':ac) (_:R w'),y 1=.int .i64 c->y 5=.pointer (some ⟨Wb,0,none⟩)->y 11=.slice sp L cp->y 12=.int .i64 L->y 13=.int .i64 i->y 6=.int .i64 i->y 7=.pointer (some ⟨ob,0,none⟩)->y 57=.bool false->qf N kv cs (bU.at ⟨lay 72 y,[]⟩ K) w' eX Z):qf N kv cs (bU.at ⟨lay 72 x,[]⟩ (.code (.region 7 U7 false)::K)) w eX Z:=by
 refine qf.region ?_;change qf N kv cs (bU.at ⟨lay 72 x,[]⟩ (.inRegion U7 [0,1,2,3,4,5,6,7,8,9,10,11,12]::K)) w eX Z;refine qf.bv qh jf (.pointer (some ⟨Wb,0,none⟩)) rfl rfl (qb rfl) (Pure.move rfl (qy h5)) ?_;refine qf.jb7 (l:=o.cells.toList) qh jf rfl rfl rfl (qb rfl) (by decide) h7 iF PD PX hc ?_;refine qf.GL rfl rfl (qb rfl) jf (DT (vs:=#[.pointer (some ⟨Wb,0,none⟩),.agg o.cells]) rfl rfl (congr (congrArg (λu v=>[u,v]) (qy rfl)) (qy rfl)) (q0j _)) func15 (λρ hK=>.cons (hK _ uN) (.cons (Ig o _ ρ) .nil)) (yU.calls rfl (λv w1 wc s h=>⟨h.1,hR _ _ s h.2⟩) dS) ?_;rintro _ wa ⟨rfl,Jk⟩;refine qf.bv qh jf (.bool false) rfl rfl (qb rfl) (Pure.not rfl (qy rfl) rfl) ?_;refine qf.bv qh jf (.bool false) rfl rfl (qb rfl) (Pure.move rfl (qy rfl)) ?_;refine qf.bu qh rfl rfl (qd rfl rfl rfl (by decide) rfl rfl) ?_;refine qf.bu qh rfl rfl (qd rfl rfl rfl (by decide) rfl rfl) ?_;refine qf.bu qh rfl rfl (qd rfl rfl rfl (by decide) rfl rfl) ?_;refine qf.bu qh rfl rfl (qd rfl rfl rfl (by decide) rfl rfl) ?_;refine qf.bu qh rfl rfl (qd rfl rfl rfl (by decide) rfl rfl) ?_;refine qf.bu qh rfl rfl (Eb rfl rfl rfl (by decide) rfl) ?_;refine qf.bu qh rfl rfl (qd rfl rfl rfl (by decide) rfl rfl) ?_;refine qf.bv qh jf (.bool false) rfl rfl (qb rfl) (Pure.wH rfl (qy rfl) rfl) ?_;exact qf.regionEnd (nx _ _ Jk h1 h5 jA iy jY h6 h7 rfl)
theorem u9a (h1:x 1=.int .i64 c) (h5:x 5=.pointer (some ⟨Wb,0,none⟩)) (jA:x 11=.slice sp L cp) (iy:x 12=.int .i64 L) (jY:x 13=.int .i64 i) (h6:x 6=.int .i64 i) (h7:x 7=.pointer (some ⟨ob,0,none⟩)) (hc:(c==0)=false) (hs:(c== -1)=false) (nx:∀(y:Nat->aa),y 1=.int .i64 c->y 5=.pointer (some ⟨Wb,0,none⟩)->y 11=.slice sp L cp->y 12=.int .i64 L->y 13=.int .i64 i->y 69=.bool false->qf N kv cs (bU.at ⟨lay 72 y,[]⟩ K) w eX Z):qf N kv cs (bU.at ⟨lay 72 x,[]⟩ (.code (.region 9 U9 false)::K)) w eX Z:=by
 refine qf.region ?_;change qf N kv cs (bU.at ⟨lay 72 x,[]⟩ (.inRegion U9 [0,1,2,3,4,5,6,7,8,9,10]::K)) w eX Z;refine qf.bv qh jf (.int .i64 c) rfl rfl (qb rfl) (Pure.move rfl (qy h1)) ?_;refine qf.bv qh jf (.bool false) rfl rfl (qb rfl) (Pure.eql rfl (qy rfl) rfl hc) ?_;refine qf.bv qh jf (.bool false) rfl rfl (qb rfl) (Pure.move rfl (qy rfl)) ?_;refine qf.bv qh jf (.int .i64 c) rfl rfl (qd rfl rfl rfl (by decide) rfl rfl) (Pure.move rfl (qy h1)) ?_;refine qf.bv qh jf (.bool false) rfl rfl (qd rfl rfl rfl (by decide) rfl rfl) (Pure.eql rfl (qy rfl) rfl hs) ?_;refine qf.bv qh jf (.bool false) rfl rfl (qb rfl) (Pure.wH rfl (qy rfl) (qy rfl)) ?_;refine qf.bv qh jf (.bool false) rfl rfl (qb rfl) (Pure.move rfl (qy rfl)) ?_;refine qf.bu qh rfl rfl (qd rfl rfl rfl (by decide) rfl rfl) ?_;refine qf.bu qh rfl rfl (qd rfl rfl rfl (by decide) rfl rfl) ?_;refine qf.bu qh rfl rfl (qd rfl rfl rfl (by decide) rfl rfl) ?_;refine qf.bv qh jf (.bool false) rfl rfl (qb rfl) (Pure.wH rfl (qy rfl) rfl) ?_;exact qf.regionEnd (nx _ h1 h5 jA iy jY rfl)
theorem u9b (h1:x 1=.int .i64 c) (h5:x 5=.pointer (some ⟨Wb,0,none⟩)) (jA:x 11=.slice sp L cp) (iy:x 12=.int .i64 L) (jY:x 13=.int .i64 i) (h6:x 6=.int .i64 i) (h7:x 7=.pointer (some ⟨ob,0,none⟩)) (hc:(c==0)=false) (hs:(c== -1)=true) {R:ac->Prop} (uN:.pointer (some ⟨Wb,0,none⟩)∈kv) (hl:oz N kv fLk #[.pointer (some ⟨Wb,0,none⟩)] w λv w'=>v=.bool true/\R w') (nx:∀(y:Nat->aa) (w':ac) (_:R w'),y 1=.int .i64 c->y 5=.pointer (some ⟨Wb,0,none⟩)->y 11=.slice sp L cp->y 12=.int .i64 L->y 13=.int .i64 i->y 69=.bool false->qf N kv cs (bU.at ⟨lay 72 y,[]⟩ K) w' eX Z):qf N kv cs (bU.at ⟨lay 72 x,[]⟩ (.code (.region 9 U9 false)::K)) w eX Z:=by
 refine qf.region ?_;change qf N kv cs (bU.at ⟨lay 72 x,[]⟩ (.inRegion U9 [0,1,2,3,4,5,6,7,8,9,10]::K)) w eX Z;refine qf.bv qh jf (.int .i64 c) rfl rfl (qb rfl) (Pure.move rfl (qy h1)) ?_;refine qf.bv qh jf (.bool false) rfl rfl (qb rfl) (Pure.eql rfl (qy rfl) rfl hc) ?_;refine qf.bv qh jf (.bool false) rfl rfl (qb rfl) (Pure.move rfl (qy rfl)) ?_;refine qf.bv qh jf (.int .i64 c) rfl rfl (qd rfl rfl rfl (by decide) rfl rfl) (Pure.move rfl (qy h1)) ?_;refine qf.bv qh jf (.bool true) rfl rfl (qd rfl rfl rfl (by decide) rfl rfl) (Pure.eql rfl (qy rfl) rfl hs) ?_;refine qf.bv qh jf (.bool true) rfl rfl (qb rfl) (Pure.wH rfl (qy rfl) (qy rfl)) ?_;refine qf.bv qh jf (.bool true) rfl rfl (qb rfl) (Pure.move rfl (qy rfl)) ?_;refine qf.bv qh jf (.pointer (some ⟨Wb,0,none⟩)) rfl rfl (qd rfl rfl rfl (by decide) rfl rfl) (Pure.move rfl (qy h5)) ?_;refine qf.GL rfl rfl (qd rfl rfl rfl (by decide) rfl rfl) jf (DT (vs:=#[.pointer (some ⟨Wb,0,none⟩)]) rfl rfl (congrArg (λv=>[v]) (qy rfl)) (WC _)) func16 (λρ hK=>.cons (hK _ uN) .nil) hl ?_;rintro _ wa ⟨rfl,Jk⟩;refine qf.bv qh jf (.bool false) rfl rfl (qd rfl rfl rfl (by decide) rfl rfl) (Pure.not rfl (qy rfl) rfl) ?_;refine qf.bv qh jf (.bool false) rfl rfl (qb rfl) (Pure.Ar rfl (qy rfl) (qy rfl)) ?_;exact qf.regionEnd (nx _ _ Jk h1 h5 jA iy jY rfl)
theorem u9c (h1:x 1=.int .i64 c) (h5:x 5=.pointer (some ⟨Wb,0,none⟩)) (jA:x 11=.slice sp L cp) (iy:x 12=.int .i64 L) (jY:x 13=.int .i64 i) (h6:x 6=.int .i64 i) (h7:x 7=.pointer (some ⟨ob,0,none⟩)) (hc:(c==0)=true) {R:ac->Prop} (uN:.pointer (some ⟨Wb,0,none⟩)∈kv) (hl:oz N kv fLk #[.pointer (some ⟨Wb,0,none⟩)] w λv w'=>v=.bool true/\R w') (nx:∀(y:Nat->aa) (w':ac) (_:R w'),y 1=.int .i64 c->y 5=.pointer (some ⟨Wb,0,none⟩)->y 11=.slice sp L cp->y 12=.int .i64 L->y 13=.int .i64 i->y 69=.bool false->qf N kv cs (bU.at ⟨lay 72 y,[]⟩ K) w' eX Z):qf N kv cs (bU.at ⟨lay 72 x,[]⟩ (.code (.region 9 U9 false)::K)) w eX Z:=by
 refine qf.region ?_;change qf N kv cs (bU.at ⟨lay 72 x,[]⟩ (.inRegion U9 [0,1,2,3,4,5,6,7,8,9,10]::K)) w eX Z;refine qf.bv qh jf (.int .i64 c) rfl rfl (qb rfl) (Pure.move rfl (qy h1)) ?_;refine qf.bv qh jf (.bool true) rfl rfl (qb rfl) (Pure.eql rfl (qy rfl) rfl hc) ?_;refine qf.bv qh jf (.bool true) rfl rfl (qb rfl) (Pure.move rfl (qy rfl)) ?_;refine qf.bu qh rfl rfl (qd rfl rfl rfl (by decide) rfl rfl) ?_;refine qf.bu qh rfl rfl (qd rfl rfl rfl (by decide) rfl rfl) ?_;refine qf.bv qh jf (.bool true) rfl rfl (qb rfl) (Pure.Ar rfl (qy rfl) rfl) ?_;refine qf.bv qh jf (.bool true) rfl rfl (qb rfl) (Pure.move rfl (qy rfl)) ?_;refine qf.bv qh jf (.pointer (some ⟨Wb,0,none⟩)) rfl rfl (qd rfl rfl rfl (by decide) rfl rfl) (Pure.move rfl (qy h5)) ?_;refine qf.GL rfl rfl (qd rfl rfl rfl (by decide) rfl rfl) jf (DT (vs:=#[.pointer (some ⟨Wb,0,none⟩)]) rfl rfl (congrArg (λv=>[v]) (qy rfl)) (WC _)) func16 (λρ hK=>.cons (hK _ uN) .nil) hl ?_;rintro _ wa ⟨rfl,Jk⟩;refine qf.bv qh jf (.bool false) rfl rfl (qd rfl rfl rfl (by decide) rfl rfl) (Pure.not rfl (qy rfl) rfl) ?_;refine qf.bv qh jf (.bool false) rfl rfl (qb rfl) (Pure.Ar rfl (qy rfl) (qy rfl)) ?_;exact qf.regionEnd (nx _ _ Jk h1 h5 jA iy jY rfl)
theorem u11 (h1:x 1=.int .i64 c) (h5:x 5=.pointer (some ⟨Wb,0,none⟩)) (jA:x 11=.slice sp L cp) (iy:x 12=.int .i64 L) (jY:x 13=.int .i64 i) (hi:i<=4611686018427387904) (nx:∀(y:Nat->aa),y 1=.int .i64 c->y 5=.pointer (some ⟨Wb,0,none⟩)->y 11=.slice sp L cp->y 12=.int .i64 L->y 13=.int .i64 (i+1:Int)->qf N kv cs (bU.at ⟨lay 72 y,[]⟩ K) w eX Z):qf N kv cs (bU.at ⟨lay 72 x,[]⟩ (.code (.region 11 U11 false)::K)) w eX Z:=by
 refine qf.region ?_;change qf N kv cs (bU.at ⟨lay 72 x,[]⟩ (.inRegion U11 [0,1]::K)) w eX Z;refine qf.bv qh jf (.int .i64 (i+1:Int)) rfl rfl (qb rfl) (Pure.add rfl (qy jY) rfl (by omega) (by omega)) ?_;refine qf.bv qh jf (.int .i64 (i+1:Int)) rfl rfl (qb rfl) (Pure.move rfl (qy rfl)) ?_;exact qf.regionEnd (nx _ h1 h5 jA iy rfl)
theorem u12 (nx:∀(y:Nat->aa),y 4=.int .i64 (-1)->qf N kv cs (bU.at ⟨lay 72 y,[]⟩ K) w eX Z):qf N kv cs (bU.at ⟨lay 72 x,[]⟩ (.code (.region 12 U12 false)::K)) w eX Z:=by
 refine qf.region ?_;change qf N kv cs (bU.at ⟨lay 72 x,[]⟩ (.inRegion U12 [0]::K)) w eX Z;refine qf.bv qh jf (.int .i64 (-1)) rfl rfl (qb rfl) (Pure.assign rfl rfl) ?_;exact qf.regionEnd (nx _ rfl)
end
structure BV (n0 L:Nat) (os:Nat->OpV) (c:Int) (Wb:Nat) (w0:ac) (I:Nat->ac->Prop):Prop where
 idle:∀k w w',I k w->But (λ_=>False) w w'->I k w'
 keep:∀k w,I k w->But (λb=>n0<=b) w0 w
 skip:∀k w,I k w->I (k+1) w
 step:∀(k:Nat) (w:ac) (N:Blocks) (kv:List aa),k<L->(c=0\/ou (os k).k<=ou c)->I k w->(∀b,N b->b<n0)->yU N kv fT #[.pointer (some ⟨Wb,0,none⟩),.agg (os k).cells] w λv w'=>v=.bool true/\I (k+1) w'
 looks:(c=0\/c= -1)->∀k w,I k w->aB prog fLk #[.pointer (some ⟨Wb,0,none⟩)] w λe w'=>e=.returned (.bool true)/\But (λ_=>False) w w'
section
variable {N:Blocks} {cs:List bg} {K:List Item} {sp:Option Addr} {L cp n0 nS Wb:Nat} {c:Int} {os:Nat->OpV} {w0:ac} {I:Nat->ac->Prop}
theorem BV.same (h:BV n0 L os c Wb w0 I) (s:Same w w') (i:I k w):I k w':=h.idle k w w' i (But.same' s)
theorem BV.look (h:BV n0 L os c Wb w0 I) (hc:c=0\/c= -1) {kv:List aa} (i:I k w):oz N kv fLk #[.pointer (some ⟨Wb,0,none⟩)] w λv w'=>v=.bool true/\I k w':=
 oz.of1 (r:=2) rfl rfl func16 rfl (λv w1 wc s h'=>⟨h'.1,h.same s h'.2⟩) λwc s=>(h.looks hc k wc (h.same s i)).mono λe w' ⟨h1,h2⟩=>by subst h1;exact⟨rfl,h.idle _ _ _ (h.same s i) h2⟩
theorem je0 (hp:BV n0 L os c Wb w0 I) (pV:∀g,g<nS->N g) (QR:∀g,N g->g<n0) (hS:sJ nS w0 sp L os) (hn:nS<=n0) (hR:∀w',I L w'->R (.int .i64 (-1)) w'):
  ∀(d i:Nat) (x:Nat->aa) (kv:List aa) (w:ac),d=L-i->i<=L->I i w->.pointer (some ⟨Wb,0,none⟩)∈kv->x 1=.int .i64 c->x 5=.pointer (some ⟨Wb,0,none⟩)->x 11=.slice sp L cp->x 12=.int .i64 L->x 13=.int .i64 i->
   qf N kv cs (bU.at ⟨lay 72 x,[]⟩ (.code uL::.inLoop uL::.inBlock 0::.code (.seq (.region 12 U12 false) .ret)::K)) w cs (Ret fU R):=by
 have hlen:=hS.len;intro d;induction d with
 |zero=>
  intro i x kv w hd hi hI uN h1 h5 jA iy jY;obtain rfl:i=L:=by omega
  rw[O7];refine qf.seq (u3 h1 h5 jA iy jY (t:=false) (xdf (by omega)) λy y1 y5 EX TA y13 MP=>?_);refine qf.seq (qf.vJ (by decide) MP ?_);refine qf.exit (k':=.code (.seq (.region 12 U12 false) .ret)::K) rfl ?_;refine qf.seq (u12 λz z4=>?_);exact qf.LB func11 (q5g z4) (λρ=>.int _ _) λwc s=>hR _ (hp.same s hI)
 |succ d ih=>
  intro i x kv w hd hi hI uN h1 h5 jA iy jY;have Cz:i<L:=by omega
  have vE:=hp.keep _ _ hI;obtain⟨g,o0,rfl,hg,Jb,iD⟩:=hS.at' (by omega);have fH:=hS.ok i Cz;rw[O7];refine qf.seq (u3 h1 h5 jA iy jY (t:=true) (xdt (by omega)) λy y1 y5 EX TA y13 MP=>?_);refine qf.seq (qf.vJ (by decide) MP ?_);refine qf.skip ?_;refine qf.seq (qf.block ?_);rw[jj7];refine qf.seq ?_;refine u4 (o:=os i) y1 y5 EX TA y13 Cz (pV g hg) (xll Jb vE.size) (λj v hj=>(xcb (vE.keep g Jb (by omega))).trans (iD i Cz j v hj)) λz z1 z5 MO z12 MN z6 z7=>?_;have Mr:I i (w.alloc (.cells (os i).cells 30)):=hp.idle _ _ _ hI (But.of_below ((jg _ _).alloc (ji _) _));have hblk:=bi w (.cells (os i).cells 30);generalize jF:w.heap.size=ob at*;generalize w.alloc (.cells (os i).cells 30)=w1 at*;have cells:∀w',Same w1 w'->∀(j:Nat) v,(os i).cells.toList[j]?=some v->w'.cell? ⟨ob,j,none⟩=some v:=λw' s j v hj=>by
   have hb:w'.heap[ob]?=some (.cells (os i).cells 30 (0,0)):=by rw[s.heap];exact hblk
   simp only[ag,hb];rw[<-hj,am];exact if_neg (by decide)
  have c0:∀w',Same w1 w'->w'.cell? ⟨ob,0,none⟩=some (.int .i64 (os i).k):=λw' s=>cells w' s 0 _ rfl
  -- the MI end
  have last:∀(a:Nat->aa) (w':ac) (PV:List aa),I (i+1) w'->.pointer (some ⟨Wb,0,none⟩)∈PV->a 1=.int .i64 c->a 5=.pointer (some ⟨Wb,0,none⟩)->a 11=.slice (some ⟨g,o0,none⟩) L cp->a 12=.int .i64 L->a 13=.int .i64 i->
    qf N PV cs (bU.at ⟨lay 72 a,[]⟩ (.code (.region 11 U11 false)::.inLoop uL::.inBlock 0::.code (.seq (.region 12 U12 false) .ret)::K)) w' cs (Ret fU R):=by
   intro a w' PV hI' Sy a1 a5 kY a12 uV;refine u11 a1 a5 kY a12 uV (by omega) λe e1 e5 ED zX EC=>?_;refine qf.inLoop ?_;exact ih (i+1) e _ w' (by omega) (by omega) hI' Sy e1 e5 ED zX (by rw[EC];rfl)
  rw[O7]at last
  -- the step is jnu
  have JH:(c=0\/ou (os i).k<=ou c)->∀(a:Nat->aa) (w':ac),Same w1 w'->a 1=.int .i64 c->a 5=.pointer (some ⟨Wb,0,none⟩)->a 11=.slice (some ⟨g,o0,none⟩) L cp->a 12=.int .i64 L->a 13=.int .i64 i->a 6=.int .i64 i->a 7=.pointer (some ⟨ob,0,none⟩)->
    qf N (.pointer (some ⟨ob,0,none⟩)::kv) cs (bU.at ⟨lay 72 a,[]⟩ (.code (.seq (.region 6 U6 false) (.seq (.seq (.region 7 U7 false) (.cond (.tmp 57) uQ7 .skip)) (.seq (.region 9 U9 false) (.cond (.tmp 69) uQ9 .skip))))::.inBlock 1::.code (.region 11 U11 false)::.inLoop (.seq (.region 3 U3 false) (.seq (.cond (.tmp 14) .skip (.exit 0)) (.seq (.block 1 uI) (.region 11 U11 false))))::.inBlock 0::.code (.seq (.region 12 U12 false) .ret)::K)) w' cs (Ret fU R):=by
   intro xO a w' s a1 a5 kY a12 uV a6 a7;refine qf.seq ?_;have six:(∀b:Nat->aa,b 1=.int .i64 c->b 5=.pointer (some ⟨Wb,0,none⟩)->b 11=.slice (some ⟨g,o0,none⟩) L cp->b 12=.int .i64 L->b 13=.int .i64 i->b 6=.int .i64 i->b 7=.pointer (some ⟨ob,0,none⟩)->
     qf N (.pointer (some ⟨ob,0,none⟩)::kv) cs (bU.at ⟨lay 72 b,[]⟩ (.code (.seq (.seq (.region 7 U7 false) (.cond (.tmp 57) uQ7 .skip)) (.seq (.region 9 U9 false) (.cond (.tmp 69) uQ9 .skip)))::.inBlock 1::.code (.region 11 U11 false)::.inLoop (.seq (.region 3 U3 false) (.seq (.cond (.tmp 14) .skip (.exit 0)) (.seq (.block 1 uI) (.region 11 U11 false))))::.inBlock 0::.code (.seq (.region 12 U12 false) .ret)::K)) w' cs (Ret fU R))->
     qf N (.pointer (some ⟨ob,0,none⟩)::kv) cs (bU.at ⟨lay 72 a,[]⟩ (.code (.region 6 U6 false)::.code (.seq (.seq (.region 7 U7 false) (.cond (.tmp 57) uQ7 .skip)) (.seq (.region 9 U9 false) (.cond (.tmp 69) uQ9 .skip)))::.inBlock 1::.code (.region 11 U11 false)::.inLoop (.seq (.region 3 U3 false) (.seq (.cond (.tmp 14) .skip (.exit 0)) (.seq (.block 1 uI) (.region 11 U11 false))))::.inBlock 0::.code (.seq (.region 12 U12 false) .ret)::K)) w' cs (Ret fU R):=by
    intro nx;by_cases oV:c=0
    ·exact u6d a1 a5 kY a12 uV a6 a7 (by simpa using oV) nx
    have pY:(c==0)=false:=by simpa using oV
    by_cases hu:(os i).k=c
    ·exact u6a (o:=os i) a1 a5 kY a12 uV a6 a7 (.head _) (c0 w' s) pY (by simpa using hu) nx
    have Y8:((os i).k==c)=false:=by simpa using hu
    by_cases iP:c= -1
    ·exact u6c (o:=os i) a1 a5 kY a12 uV a6 a7 (.head _) (c0 w' s) pY Y8 (by simpa using iP) rfl nx
    ·exact u6b (o:=os i) a1 a5 kY a12 uV a6 a7 (.head _) (c0 w' s) pY Y8 (by simpa using iP) nx
   refine six λb b1 b5 zZ Gt zY b6 b7=>?_;refine qf.seq (qf.seq ?_);have QU:=hp.same s Mr;refine u7 (o:=os i) (R:=I (i+1)) b1 b5 zZ Gt zY b6 b7 (.head _) (au _ uN) (cells w' s) (λ_ _ s' h'=>hp.same s' h') (hp.step i w' N _ Cz xO QU QR) λd w2 QT d1 d5 Ms Rf Rc d6 d7 d57=>?_;refine qf.vJ (by decide) d57 (qf.skip ?_);refine qf.seq ?_;by_cases oV:c=0
   ·refine u9c d1 d5 Ms Rf Rc d6 d7 (by simpa using oV) (au _ uN) (hp.look (.inl oV) QT) λe w3 QS e1 e5 ED zX EC Jp=>?_;refine qf.vJ (by decide) Jp (qf.skip (qf.inBlock ?_));exact last e w3 _ QS (au _ uN) e1 e5 ED zX EC
   have pY:(c==0)=false:=by simpa using oV
   by_cases iP:c= -1
   ·refine u9b d1 d5 Ms Rf Rc d6 d7 pY (by simpa using iP) (au _ uN) (hp.look (.inr iP) QT) λe w3 QS e1 e5 ED zX EC Jp=>?_;refine qf.vJ (by decide) Jp (qf.skip (qf.inBlock ?_));exact last e w3 _ QS (au _ uN) e1 e5 ED zX EC
   ·refine u9a d1 d5 Ms Rf Rc d6 d7 pY (by simpa using iP) λe e1 e5 ED zX EC Jp=>?_;refine qf.vJ (by decide) Jp (qf.skip (qf.inBlock ?_));exact last e w2 _ QT (au _ uN) e1 e5 ED zX EC
  refine qf.seq (qf.seq ?_);by_cases oV:c=0
  ·refine u5z z1 z5 MO z12 MN z6 z7 (by simpa using oV) λa a1 a5 kY a12 uV a6 a7 a27=>?_;refine qf.vJ (by decide) a27 (qf.skip ?_);exact JH (.inl oV) a w1 (Same.refl _) a1 a5 kY a12 uV a6 a7
  have pY:(c !=0)=true:=by simpa using oV
  by_cases eH:ou c<ou (os i).k
  ·refine u5n (o:=os i) z1 z5 MO z12 MN z6 z7 (.head _) (c0 w1 (Same.refl _)) pY (t:=true) (xdt eH) λa w2 s a1 a5 kY a12 uV a6 a7 a27=>?_;refine qf.vJ (by decide) a27 ?_;refine qf.exit rfl ?_;exact last a w2 _ (hp.skip _ _ (hp.same s Mr)) (au _ uN) a1 a5 kY a12 uV
  ·refine u5n (o:=os i) z1 z5 MO z12 MN z6 z7 (.head _) (c0 w1 (Same.refl _)) pY (t:=false) (xdf eH) λa w2 s a1 a5 kY a12 uV a6 a7 a27=>?_;refine qf.vJ (by decide) a27 (qf.skip ?_);exact JH (.inr (by omega)) a w2 s a1 a5 kY a12 uV a6 a7
end
section
variable {kv:List aa} {w:ac} {sp:Option Addr} {L cp nS:Nat} {os:Nat->OpV} {N:Blocks} {c:Int} {I:Nat->ac->Prop}
theorem YU (v u:aa) (t:Array aa):(#[v,u]++t).getD 0 aK=v/\(#[v,u]++t).getD 1 aK=u:=by
 constructor
 ·rw[ak,aR (by simp)];rfl
 ·rw[ak,aR (by simp)];rfl
theorem qu5 {v u:aa}:aH XG.P fU #[v,u] .normal=bU.at ⟨lay 72 (λi=>(#[v,u]++bN 70 aK).getD i aK),[]⟩ [.code uB]:=by
 show aH prog fU _ .normal=_;rw[enter_at _ func11 (show Tryz.f11.body=some uB from rfl)];have hn:Tryz.f11.ntmps=72:=rfl;rw[hn,DC (by simp)];rfl
def Fv (w:ac):ac:=w.alloc (.cells #[.slice none 0 0,.slice none 0 0,.slice none 0 0,.bool false] 36)
theorem je1 (hp:BV w.heap.size L os c w.heap.size w I) (h0:I 0 (Fv w)) (pV:∀g,g<nS->N g) (QR:∀g,N g->g<w.heap.size) (hS:sJ nS w sp L os) (hn:nS<=w.heap.size):
  yU N kv fU #[.slice sp L cp,.int .i64 c] w λv w'=>v=.int .i64 (-1)/\But (λb=>w.heap.size<=b) w w':=λks=>by
 rw[qu5,jj6];refine qf.seq (u0 (sp:=sp) (L:=L) (cp:=cp) (c:=c) (YU _ _ _).1 (YU _ _ _).2 λy y0 y1=>?_);refine qf.seq (u1 y0 y1 λz z0 z1 z5=>?_);refine qf.seq (qf.seq (u2 z0 z1 z5 λa a1 a5 kY a12 uV=>?_));refine qf.block (qf.loop ?_);have hh:But (λb=>w.heap.size<=b) w (Fv w):=But.of_below ((jg _ _).alloc (ji _) _);exact je0 hp pV QR hS hn (R:=λv w'=>v=.int .i64 (-1)/\But (λb=>w.heap.size<=b) w w') (λw' hI=>⟨rfl,hp.keep _ _ hI⟩) (L-0) 0 a _ _ rfl (xzl _) h0 (.head _) a1 a5 kY a12 uV
end
theorem qwm (vs:Array aa) (w:ac):(az fM vs).run prog w=.ok (.enter fM vs) w/\(az fM vs).events prog w #[]=#[]:=by
 have hf:=func10;constructor<;>simp[az,go_sem,hf,Tryz.f10]
theorem q0v (vs:Array aa) (w:ac):(az fU vs).run prog w=.ok (.enter fU vs) w/\(az fU vs).events prog w #[]=#[]:=by
 have hf:=func11;constructor<;>simp[az,go_sem,hf,Tryz.f11]
section
variable {kv:List aa} {cs eX:List bg} {w:ac} {Z:bg->ac->Prop} {K:List Item} {x:Nat->aa} {sp:Option Addr} {L cp:Nat} {os:Nat->OpV} {c:Int}
def X8 (w:ac) (L:Nat) (os:Nat->OpV) (c:Int):Prop:= ∀w1,But (λ_=>False) w w1->L+szT os L<=262144->∃I,BV w1.heap.size L os c w1.heap.size w1 I/\I 0 (Fv w1)
theorem sJ.ji5 {w:ac} (h:sJ w.heap.size w sp L os) (hb:But (λ_=>False) w w1):sJ w.heap.size w1 sp L os:=h.but (hb.mono λ_=>False.elim)
theorem jcy {ops:Array Oper} {o0 o1 o2 o3 o4 o5 o6 o7 o8:Oper} (gB:blG (base f).fn=true) (kN:ops=#[o0,o1,o2,o3,o4,o5,o6,o7,o8])
  (d0:o0.dst=some 3/\o0.guard=none/\o0.op=.move (.tmp 0)) (d1:o1.dst=some 4/\o1.guard=none/\o1.op=.call {callee:=.value (.func fM),args:=#[.tmp 3],argTypes:=#[22]})
  (d2:o2.dst=some 5/\o2.guard=none/\o2.op=.unOp .not 4 (.tmp 4)) (d3:o3.dst=some 6/\o3.guard=none/\o3.op=.move (.tmp 5)) (d4:o4.dst=some 7/\o4.guard=some (3,false)/\o4.op=.move (.tmp 0))
  (d5:o5.dst=some 8/\o5.guard=some (3,false)/\o5.op=.call {callee:=.value (.func fU),args:=#[.tmp 7,.const (.int .i64 c)],argTypes:=#[22,3]})
  (d6:o6.dst=some 9/\o6.guard=some (3,false)/\o6.op=.binOp .eql 3 (.tmp 8) (.const (.int .i64 (-1))) 3) (d7:o7.dst=some 10/\o7.guard=none/\o7.op=.pick (.tmp 6) (.const (.bool true)) (.tmp 9)) (d8:o8.dst=some 2/\o8.guard=none/\o8.op=.assign (.tmp 10))
  (hx:x 0=.slice sp L cp) (hS:sJ w.heap.size w sp L os) (hp:X8 w L os c)
  (nx:∀(y:Nat->aa) w',But (λb=>w.heap.size<=b) w w'->y 2=.bool true->qf (λb=>b<w.heap.size) kv cs ((base f).at ⟨lay 11 y,[]⟩ K) w' eX Z):
  qf (λb=>b<w.heap.size) kv cs ((base f).at ⟨lay 11 x,[]⟩ (.inRegion ops [0,1,2,3,4,5,6,7,8]::K)) w eX Z:=by
 have hk:(base f).kind≠.early:=by show CallKind.normal≠.early;decide
 obtain⟨d0,g0,p0⟩:=d0;obtain⟨d1,g1,p1⟩:=d1;obtain⟨d2,g2,p2⟩:=d2;obtain⟨d3,g3,p3⟩:=d3;obtain⟨d4,g4,p4⟩:=d4;obtain⟨d5,g5,p5⟩:=d5;obtain⟨d6,g6,p6⟩:=d6;obtain⟨d7,g7,p7⟩:=d7;obtain⟨d8,g8,p8⟩:=d8;have q0:ops[0]?=some o0:=by subst kN;rfl
 have q1:ops[1]?=some o1:=by subst kN;rfl
 have q2:ops[2]?=some o2:=by subst kN;rfl
 have q3:ops[3]?=some o3:=by subst kN;rfl
 have q4:ops[4]?=some o4:=by subst kN;rfl
 have q5:ops[5]?=some o5:=by subst kN;rfl
 have q6:ops[6]?=some o6:=by subst kN;rfl
 have q7:ops[7]?=some o7:=by subst kN;rfl
 have q8:ops[8]?=some o8:=by subst kN;rfl
 refine qf.bv gB hk (.slice sp L cp) q0 d0 (qb g0) (Pure.move p0 (qy hx)) ?_;refine qf.YT gB q1 d1 (qb g1) hk (DT (vs:=#[.slice sp L cp]) p1 rfl (congrArg (λv=>[v]) (qy rfl)) (qwm _)) func10 (λρ _ h=>by cases h) (λv w1 wc s ⟨t,h1,h2,h3⟩=>⟨t,h1,h2,h3.trans (But.same' s)⟩) (q9s (n0:=w.heap.size) (λg hg=>hg) hS (ji _)) ?_;rintro _ w1 ⟨t,rfl,ht,hb⟩;refine qf.bv gB hk (.bool (!t)) q2 d2 (qb g2) (Pure.not p2 (qy rfl) rfl) ?_;refine qf.bv gB hk (.bool (!t)) q3 d3 (qb g3) (Pure.move p3 (qy rfl)) ?_;cases t
 ·refine qf.bu gB q4 d4 (qd g4 q3 d3 (by decide) rfl rfl) ?_;refine qf.bu gB q5 d5 (qd g5 q3 d3 (by decide) rfl rfl) ?_;refine qf.bu gB q6 d6 (qd g6 q3 d3 (by decide) rfl rfl) ?_;refine qf.bv gB hk (.bool true) q7 d7 (qb g7) (Pure.Ar p7 (qy rfl) rfl) ?_;refine qf.bv gB hk (.bool true) q8 d8 (qb g8) (Pure.assign p8 (qy rfl)) ?_;exact qf.regionEnd (nx _ w1 (hb.mono λ_=>False.elim) rfl)
 ·have F9:=hx;obtain⟨I,Mr,QU⟩:=hp w1 hb (ht rfl);refine qf.bv gB hk (.slice sp L cp) q4 d4 (qd g4 q3 d3 (by decide) rfl rfl) (Pure.move p4 (qy F9)) ?_;refine qf.YT gB q5 d5 (qd g5 q3 d3 (by decide) rfl rfl) hk (DT (vs:=#[.slice sp L cp,.int .i64 c]) p5 rfl (congrArg (λv=>[v,Value.int .i64 c]) (qy rfl)) (q0v _)) func11 (λρ _ h=>by cases h) (λv w2 wc s ⟨h1,h2⟩=>⟨h1,h2.trans (But.same' s)⟩) (je1 (nS:=w.heap.size) Mr QU (λg hg=>hg) (λg hg=>xll hg hb.size) (hS.ji5 hb) hb.size) ?_;rintro _ w2 ⟨rfl,gq⟩;refine qf.bv gB hk (.bool true) q6 d6 (qd g6 q3 d3 (by decide) rfl rfl) (Pure.eql p6 (qy rfl) rfl rfl) ?_;refine qf.bv gB hk (.bool true) q7 d7 (qb g7) (Pure.wH p7 (qy rfl) (qy rfl)) ?_;refine qf.bv gB hk (.bool true) q8 d8 (qb g8) (Pure.assign p8 (qy rfl)) ?_;refine qf.regionEnd (nx _ w2 ((hb.mono λ_=>False.elim).trans (gq.mono λb h=>xlt hb.size h)) rfl)
theorem YP {fn:Func} {p0 o0 o1 o2 o3 o4 o5 o6 o7 o8:Oper} (gB:blG f=true) (hf:XG.P.funcs[f]?=some fn) (hr:fn.results=#[.tmp 2]) (hn:fn.ntmps=11)
  (JW:fn.body=some (.seq (.region 0 #[p0] false) (.seq (.region 1 #[o0,o1,o2,o3,o4,o5,o6,o7,o8] false) .ret))) (e0:p0.dst=some 2/\p0.guard=none/\p0.op=.assign (.const (.bool false)))
  (d0:o0.dst=some 3/\o0.guard=none/\o0.op=.move (.tmp 0)) (d1:o1.dst=some 4/\o1.guard=none/\o1.op=.call {callee:=.value (.func fM),args:=#[.tmp 3],argTypes:=#[22]})
  (d2:o2.dst=some 5/\o2.guard=none/\o2.op=.unOp .not 4 (.tmp 4)) (d3:o3.dst=some 6/\o3.guard=none/\o3.op=.move (.tmp 5)) (d4:o4.dst=some 7/\o4.guard=some (3,false)/\o4.op=.move (.tmp 0))
  (d5:o5.dst=some 8/\o5.guard=some (3,false)/\o5.op=.call {callee:=.value (.func fU),args:=#[.tmp 7,.const (.int .i64 c)],argTypes:=#[22,3]})
  (d6:o6.dst=some 9/\o6.guard=some (3,false)/\o6.op=.binOp .eql 3 (.tmp 8) (.const (.int .i64 (-1))) 3) (d7:o7.dst=some 10/\o7.guard=none/\o7.op=.pick (.tmp 6) (.const (.bool true)) (.tmp 9)) (d8:o8.dst=some 2/\o8.guard=none/\o8.op=.assign (.tmp 10))
  (hS:sJ w.heap.size w sp L os) (hp:X8 w L os c):
  qf (λb=>b<w.heap.size) kv [] (aH XG.P f #[.slice sp L cp] .normal) w [] (Ret f λv w'=>v=.bool true/\But (λb=>w.heap.size<=b) w w'):=by
 have uw:aH XG.P f #[.slice sp L cp] .normal=(base f).at ⟨lay 11 (λi=>(#[Value.slice sp L cp]++bN 10 aK).getD i aK),[]⟩ [.code (.seq (.region 0 #[p0] false) (.seq (.region 1 #[o0,o1,o2,o3,o4,o5,o6,o7,o8] false) .ret))]:=by
  rw[enter_at (P:=XG.P) _ hf JW,hn,DC (by simp)];rfl
 rw[uw];have hk:(base f).kind≠.early:=by show CallKind.normal≠.early;decide
 have YA:blG (base f).fn=true:=gB;obtain⟨e0,eg,ep⟩:=e0;refine qf.seq (qf.region ?_);change qf _ kv [] ((base f).at ⟨lay 11 _,[]⟩ (.inRegion #[p0] [0]::_)) w [] _;refine qf.bv YA hk (.bool false) (o:=p0) rfl e0 (qb eg) (Pure.assign ep rfl) ?_;refine qf.regionEnd (qf.seq (qf.region ?_));change qf _ kv [] ((base f).at ⟨lay 11 _,[]⟩ (.inRegion _ [0,1,2,3,4,5,6,7,8]::_)) w [] _;refine jcy YA rfl d0 d1 d2 d3 d4 d5 d6 d7 d8 (sp:=sp) (L:=L) (cp:=cp) ((if_neg (by decide)).trans (Yy _ _)) hS hp λy w' hb y2=>?_;exact qf.LB hf (λw=>by
  have:=Ku hr (lay 11 y) w;rw[Ol (by decide),y2]at this
  exact this) (λρ=>.bool _) λwc s=>⟨rfl,hb.trans (But.same' s)⟩
end
end
section
open Go.Conc Go.ConcN Go.RowKit Go.Conc.Lib Go Sim
open Go.ChangeShapes Go.WideShapes Go.ChangeAt Go.Deep
theorem q3v:laidOutB prog=true:=by kernel_rfl
theorem Va:ownKnob prog.godebug=none:=by kernel_rfl
section
variable {H:Type} {enc:aI×aa->H}
theorem WU {P:Program} {e:aI} {d:bO H} {n:Nat}:∀{l:List (bO H)},d∈l->n∈d.weights P e->n∈bp P e l
 |x::l,hd,hn=>by
  unfold bp;rcases bG.1 hd with rfl|hd
  ·exact aS _ hn
  ·exact List.mem_append_right _ (WU hd hn)
theorem jjg {base:Nat} {spare:Nat->Bool} {held:Bool} {a:Addr} {x:bO H×List bz} {cs:List aa} (hc:w.cells? base a 10=some cs) (h:DataW.trod enc prog w base spare held n 30 cs=some x)
  (hw:∀m∈x.1.weights prog 30,m<=reachBytes):∃o:OpV,OpV.Ok o/\∀(j:Nat) v,o.cells.toList[j]?=some v->w.cell? (a.add j)=some v:=by
 obtain⟨_,hl,iD⟩:=World.cells?_some hc;obtain⟨xs,n',_,rfl,_,Cr,hf⟩:=DataW.trod_struct underlying30 h;match cs,hl with
 |[c0,c1,c2,c3,c4,c5,c6,c7,c8,c9],_=>
  have ci:prog.cellsOf 3=1:=by kernel_rfl
  have Tp:prog.cellsOf 9=1:=by kernel_rfl
  have Df:∀{c:aa} {y:bO H×List bz},DataW.trod enc prog w base spare held n' 3 [c]=some y->∃z:Int,c=.int .i64 z/\-9223372036854775808<=z/\z<=9223372036854775807:=λ{c y} hy=>by
   obtain⟨z,h1,_,h3⟩:=DataW.trod_int underlying3 hy;have h1:c=.int .i64 z:=by simpa using h1
   have h3:(decide (IntKind.i64.min<=z)&&decide (z<=IntKind.i64.max))=true:=h3;simp only[bH,decide_eq_true_eq]at h3;exact⟨z,h1,by simpa[IntKind.min,IntKind.signed,IntKind.bits]using h3.1,by simpa[IntKind.max,IntKind.signed,IntKind.bits]using h3.2⟩
  have P5:∀{c:aa} {y:bO H×List bz},DataW.trod enc prog w base spare held n' 9 [c]=some y->∃s:ByteArray,c=.string s/\y.1=.lit (.string s.data.toList):=λ{c y} hy=>by
   obtain⟨s,h1,h2,_⟩:=DataW.trod_string underlying9 hy;exact⟨s,by simpa using h1,by rw[h2]⟩
  match xs,Cr with
  |[y0,y1,y2,y3,y4,y5,y6,y7,y8,y9],_=>
   have t0:=hf 0 _ rfl;have t1:=hf 1 _ rfl;have t2:=hf 2 _ rfl;have t3:=hf 3 _ rfl;have t4:=hf 4 _ rfl;have t5:=hf 5 _ rfl;have t6:=hf 6 _ rfl;have t7:=hf 7 _ rfl;have t8:=hf 8 _ rfl;have t9:=hf 9 _ rfl;simp only[ci,Tp,aW,bD,aV,bC,List.getElem?_cons_zero,List.getElem?_cons_succ]at t0 t1 t2 t3 t4 t5 t6 t7 t8 t9;obtain⟨k,rfl,k1⟩:=Df t0;obtain⟨za,rfl,a1⟩:=Df t1;obtain⟨zb,rfl,b1⟩:=Df t2;obtain⟨zc,rfl,e1⟩:=Df t3;obtain⟨zd,rfl,d1⟩:=Df t4;obtain⟨ze,rfl,f1⟩:=Df t5;obtain⟨zf,rfl,g1⟩:=Df t6;obtain⟨s,rfl,s1⟩:=P5 t7;obtain⟨t,rfl,u1⟩:=P5 t8;obtain⟨u,rfl,v1⟩:=P5 t9;have hr:∀m∈bj prog [3,3,3,3,3,3,3,9,9,9] [y0.1,y1.1,y2.1,y3.1,y4.1,y5.1,y6.1,y7.1,y8.1,y9.1],m<=reachBytes:=λm hm=>hw m (by
    have hu:=underlying30;show m∈aY prog 30 (.agg [y0.1,y1.1,y2.1,y3.1,y4.1,y5.1,y6.1,y7.1,y8.1,y9.1]);unfold aY;rw[hu]
    exact hm)
   have big:∀(j:Nat) (d:bO H) (b:ByteArray),[3,3,3,3,3,3,3,9,9,9][j]?=some 9->[y0.1,y1.1,y2.1,y3.1,y4.1,y5.1,y6.1,y7.1,y8.1,y9.1][j]?=some d->d=.lit (.string b.data.toList)->b.size<=140737488355328:=λj d b h1 h2 h3=>by
    have:=hr _ (DataW.weights_mem_each h1 h2 b.data.toList.length (by subst h3;simp[aY]));have e:b.data.toList.length=b.size:=by simp
    unfold reachBytes at this;omega
   refine⟨⟨k,za,zb,zc,zd,ze,zf,s,t,u⟩,⟨k1,a1,b1,e1,d1,f1,g1,big 7 _ s rfl rfl s1,big 8 _ t rfl rfl u1,big 9 _ u rfl rfl v1⟩,λj v hj=>?_⟩;have SA:j<10:=(ax.1 hj).1;rw[iD j SA];exact hj
theorem Wi {W:ac} {sp:Option Addr} {L cp:Nat} {base:Nat} {d0:bO H} {p:List bz} (h0:DataW.Trod enc prog W 0 (λ_=>true) true 22 (.slice sp L cp) d0 p)
  (hv:Value.okWide prog W .any base 22 (.slice sp L cp)) (fC:(bj prog [22] [d0]).all (· <=reachBytes)=true) (eH:∀x∈p,x.block<W.heap.size):
  ∃os,sJ W.heap.size W sp L os:=by
 obtain⟨fuel,hf⟩:=h0;have hC:prog.cellsOf 30=10:=by kernel_rfl
 have hu:=underlying22;rcases open_slice hu hf with⟨e,_⟩|⟨a,len,cap,m,n,D,Pl,e,_,hl,yI,hm,hx,Zn⟩
 ·have e:(#[Value.slice sp L cp]:Array aa).toList=[.slice none 0 0]:=e;simp at e;obtain⟨rfl,rfl,rfl⟩:=e;exact⟨λ_=>⟨0,0,0,0,0,0,0,⟨#[]⟩,⟨#[]⟩,⟨#[]⟩⟩,λh=>absurd h (by omega),λi hi=>absurd hi (by omega),by omega⟩
 ·have e:(#[Value.slice sp L cp]:Array aa).toList=[.slice (some a) len cap]:=e;simp at e;obtain⟨rfl,rfl,rfl⟩:=e;simp only[if_true]at hm;subst m;rw[hC]at hx Zn;simp only[Prod.mk.injEq]at hx;obtain⟨rfl,rfl⟩:=hx;have yL:a.spot=none:=by
   simp only[Value.okWide,hu,Cell.okWide,Cell.ok,World.has]at hv;exact hv.2.2.2.1
  obtain⟨g,o0,sp0⟩:=a;have yL:sp0=none:=yL;subst yL;have gm:∀x∈bj prog [22] [.slice ((aw L).map D) ((aw (cp-L)).map λj=>D (L+j))],x<=reachBytes:=λx hx=>by
   have:=bI.1 fC x hx;simpa using this
  have mZ:∀x∈aY prog 22 (.slice ((aw L).map D) ((aw (cp-L)).map λj=>D (L+j))),x<=reachBytes:=λx hx=>gm x (by unfold bj;exact aS _ hx);have hwu:aY prog 22 (.slice ((aw L).map D) ((aw (cp-L)).map λj=>D (L+j)))=(((aw L).map D).length+((aw (cp-L)).map λj=>D (L+j)).length)*prog.bytesOf 30::(bp prog 30 ((aw L).map D)++bp prog 30 ((aw (cp-L)).map λj=>D (L+j))):=by
   rw[aY];rw[hu]
  rw[hwu]at mZ;have hlen:L<=140737488355328:=by
   have hb:prog.bytesOf 30=104:=by kernel_rfl
   have:=mZ _ (.head _);rw[hb]at this;simp only[bB,List.length_range]at this;unfold reachBytes at this;omega
  have key:∀i,∃o:OpV,i<L->OpV.Ok o/\∀(j:Nat) v,o.cells.toList[j]?=some v->W.cell? ⟨g,o0+i*10+j,none⟩=some v:=λi=>by
   by_cases hi:i<L
   ·obtain⟨fJ,hc,ht⟩:=Zn i (by omega);obtain⟨o,h1,h2⟩:=jjg hc ht λx hx=>mZ x (.tail _ (aS _ (WU (List.mem_map.2 ⟨i,bE.2 hi,rfl⟩) hx)));refine⟨o,λ_=>⟨h1,λj v hj=>?_⟩⟩;have:=h2 j v hj;rwa [aq,aq]at this
   ·exact⟨⟨0,0,0,0,0,0,0,⟨#[]⟩,⟨#[]⟩,⟨#[]⟩⟩,λh=>absurd h hi⟩
  obtain⟨os,hos⟩:=Classical.axiomOfChoice key;refine⟨os,λhL=>⟨g,o0,rfl,?_,?_,λi hi=>(hos i hi).2⟩,λi hi=>(hos i hi).1,hlen⟩;all_goals
   have uj:(MemPlace.cell g o0)∈MemPlace.row ⟨g,o0,none⟩ (cp*10)++(aw cp).flatMap Pl:=aS _ (MemPlace.mem_row.2 ⟨0,by omega,by simp⟩);exact eH _ uj
end
section
variable {H:Type} {enc:aI×aa->H}
theorem Vv {args:Array aa} {W:ac} {N:Blocks} {Post:aa->ac->Prop} (gB:blG f=true) (hi:XG.P.inits.idxOf? f=none)
  (h:qf N [] [] (aH XG.P f args .normal) W [] (Ret f λv w'=>v=.bool true/\But (λb=>W.heap.size<=b) W w')) (hp:∀w',But (λb=>W.heap.size<=b) W w'->Post (.bool true) w'):
  ∃M last o w' t',runNT XG.P (M+1) (solo (G (aH XG.P f args .normal) []) W) #[]=(.ended o w',t')/\runN XG.P M (solo (G (aH XG.P f args .normal) []) W)=.next last/\step XG.P last=.ended o w'/\Conc.Good XG.P Post last o w' t':=
 q8d (ρ:=λ_ _=>False) h (λhb=>by rw[Oo,gB]at hb;cases hb) ⟨λh _=>h.elim,λh _=>h.elim,λh=>h.elim,λ_ _=>rfl,λ_ h=>h.elim⟩ (λv hv=>by cases hv) hi
  λv w1 wc s ⟨h1,h2⟩=>by subst h1;exact hp wc (h2.trans (But.same' s))
theorem VB {t:aI} (hr:prog.readableRec t=true) (gY:t<prog.types.size) {W W':ac} {v:aa} {d:bO H} {ps:List bz} (h:DataW.Trod enc prog W 0 (λ_=>true) true t v d ps) (hb:But (λb=>W.heap.size<=b) W W') (eH:∀x∈ps,x.block<W.heap.size):
  DataW.Trod enc prog W' 0 (λb=>decide (b<W.heap.size)) true t v d ps:=
 WideElems.Trod_stays q3v hr gY h (λx hx=>by
  have F9:=eH x hx;cases x with
  |cell b o=>exact xcb (w:=W) (hb.keep b F9 (cH.2 F9))
  |map b=>exact hb.keep b F9 (cH.2 F9)) (λx hx=>by simpa using eH x hx)
theorem Wt {W:ac} (h:But (λb=>W.heap.size<=b) W w') (may:bz->Prop):W.keptBut w' may:=by
 refine⟨h.os,h.output,λi hi=>?_⟩;rw[h.keep i hi (cH.2 hi)];split<;>simp_all
end
end
end Go.Proofs.YtkpekiajdlolnabGreat.Ph
namespace Go.Proofs.YtkpekiajdlolnabGreat
open Go.RowKit Go.Maps
structure wZ where
 cs:aa
 bs:aa
 out:Nat->Prop
section
variable {n0:Nat} {CS:wZ} {w:ac}
def mnK:ByteArray:=⟨#[109,105,110,101]⟩
def mnV (k:Nat):ByteArray:=⟨#[aP (k%256),aP (k/256%256),aP (k/65536%256)]⟩
theorem Nk (k:Nat) (hk:k<=4398046511104):aB prog 38 #[.int .i64 k] w λe w'=>(∃a b:ByteArray,(a=mnK/\b=mnV k)/\e=.returned (.agg #[.string a,.string b]))/\aA w.heap.size w w':=by
 obtain⟨a0,h0,g0⟩:∃b:UInt8,(b.toNat:Int)=(k:Int)%256/\aP (k%256)=b:=⟨aP (k%256),by simp,rfl⟩
 obtain⟨a1,h1,g1⟩:∃b:UInt8,(b.toNat:Int)=(k:Int)/256%256/\aP (k/256%256)=b:=⟨aP (k/256%256),by simp,rfl⟩
 obtain⟨a2,h2,g2⟩:∃b:UInt8,(b.toNat:Int)=(k:Int)/65536%256/\aP (k/65536%256)=b:=⟨aP (k/65536%256),by simp,rfl⟩
 have hm:(⟨#[a0,a1,a2]⟩:ByteArray)=mnV k:=by unfold mnV;rw[g0,g1,g2]
 have HM:=Hd hm;clear g0 g1 g2 hm;have Et:(convert 139 9 (.slice (some ⟨w.heap.size+1,0,none⟩) 3 3)).run prog ((w.alloc (.cells #[.string ⟨#[]⟩,.string ⟨#[]⟩] 74)).alloc (.cells #[.int .u8 ((k:Int)%256),.int .u8 ((k:Int)/256%256),.int .u8 ((k:Int)/65536%256)] 5))=.ok (.string ⟨#[a0,a1,a2]⟩) _:=
  run_convert_bytes_back (P:=prog) _ 139 9 5 ⟨w.heap.size+1,0,none⟩ 3 [a0,a1,a2] underlying139 underlying5 underlying9 (λj hj=>by
   rw[aq,aG];match j,hj with
   |0,_=>rw[show([a0,a1,a2][0].toNat:Int)=_ from h0];go_simp
   |1,_=>rw[show([a0,a1,a2][1].toNat:Int)=_ from h1];go_simp
   |2,_=>rw[show([a0,a1,a2][2].toNat:Int)=_ from h2];go_simp)
 clear h0 h1 h2;go_enter func38,ntmps38;go_wp2;refine bodyPost_ret (v:=.agg #[.string ⟨#[109,105,110,101]⟩,.string ⟨#[a0,a1,a2]⟩]) (by simp[results,Tryz.results38,go_sem]) rfl ⟨⟨_,_,⟨rfl,HM.o⟩,rfl⟩,((jg _ _).alloc (ji _) _).alloc (by simp) _⟩
def Az (w:ac):aa->List aa
 |.slice (some a) n _=>match w.heap[a.block]? with
  |some (.cells cur _ _)=>cur.toList.take n
  |_=>[]
 |_=>[]
def mD (w:ac) (S:aa) (g:Nat):Prop:= ∃l∈Az w S,l.ownBlock=some g
theorem A8 {ty:aI} (h:w.ownsRow b ty 1 S n xs):Az w S=xs:=by
 rcases h.2 with⟨rfl,hz⟩|⟨g,cap,cur,rfl,_,h2,_,_,_,h6⟩
 ·have:xs=[]:=List.length_eq_zero_iff.1 (by rw[h.1,hz]);rw[this];rfl
 ·show(match w.heap[g]? with|some (.cells cur _ _)=>cur.toList.take n|_=>[])=xs;rw[h2,<-h6,Nat.mul_one]
theorem Ec (h:∀g,S.ownBlock=some g->w'.heap[g]?=w.heap[g]?):Az w' S=Az w S:=by
 cases S with
 |slice p n c=>
  cases p with
  |none=>rfl
  |some a=>
   show(match w'.heap[a.block]? with|some (.cells cur _ _)=>cur.toList.take n|_=>[])=(match w.heap[a.block]? with|some (.cells cur _ _)=>cur.toList.take n|_=>[]);rw[h a.block rfl]
 |_=>rfl
def vL (w:ac) (k:Nat) (l:aa):Prop:= ∃m ys,w.ownsRow 0 74 2 l m ys/\∀i,i<m->ys[i*2]?=some (.string mnK)/\ys[i*2+1]?=some (.string (mnV k))
structure lJ (n0:Nat) (w:ac) (W:Nat) (CS:wZ) (S:aa) (n:Nat):Prop where
 b:∃cur,w.heap[W]?=some (.cells cur 36 (0,0))/\cur[2]?=some S/\cur[0]?=some CS.cs/\cur[1]?=some CS.bs/\cur[3]?=some (.bool false)
 row:∃xs,w.ownsRow n0 47 1 S n xs
 kept:∀k l,(Az w S)[k]?=some l->vL w k l
 out:∀g,mD w S g->¬CS.out g
theorem lJ.KF {W:Nat} (h:lJ n0 w W CS S n) (hg:mD w S g):∃cur,w.heap[g]?=some (.cells cur 74 (0,0)):=by
 obtain⟨l,hl,e⟩:=hg;obtain⟨k,hk⟩:=List.mem_iff_getElem?.1 hl;obtain⟨m,ys,hr,_⟩:=h.kept k l hk;rcases hr.2 with⟨rfl,_⟩|⟨g',cap,cur,rfl,_,h2,_⟩
 ·cases e
 ·cases e;exact⟨cur,h2⟩
theorem lJ.cell {W:Nat} (h:lJ n0 w W CS S n):w.cell? ⟨W,2,none⟩=some S/\w.frozen? ⟨W,2,none⟩=false/\W<w.heap.size:=by
 obtain⟨cur,h1,h2,EA⟩:=h.b;exact⟨by simp[ag,h1,h2],by simp[aC,h1],(zi h1).1⟩
theorem qi {w:ac} {base size:Nat} {ty:aI} {v:aa} (h:w.ownsRow base ty size v n xs) (k:∀g,v.ownBlock=some g->w'.heap[g]?=w.heap[g]?):w'.ownsRow base ty size v n xs:=by
 refine⟨h.1,h.2.imp id ?_⟩;rintro⟨g,cap,cur,rfl,h1,h2,h3⟩;exact⟨g,cap,cur,rfl,h1,(k g rfl).trans h2,h3⟩
theorem lJ.block {w:ac} {W:Nat} (h:lJ n0 w W CS S n) (hW:w'.heap[W]?=w.heap[W]?) (hS:∀g,S.ownBlock=some g->w'.heap[g]?=w.heap[g]?) (hL:∀g,mD w S g->w'.heap[g]?=w.heap[g]?):lJ n0 w' W CS S n:=by
 obtain⟨cur,h1,h2,EA⟩:=h.b;obtain⟨xs,h3⟩:=h.row;refine⟨⟨cur,hW.trans h1,h2,EA⟩,⟨xs,qi h3 hS⟩,λk l hk=>?_,λg hg=>h.out g (by unfold mD at hg⊢;rw[Ec hS]at hg;exact hg)⟩;rw[Ec hS]at hk;obtain⟨m,ys,hr,hm⟩:=h.kept k l hk;exact⟨m,ys,qi hr λg hg=>hL g ⟨l,bA hk,hg⟩,hm⟩
theorem jm {w:ac} {base size:Nat} {ty:aI} {v:aa} (h:w.ownsRow base ty size v n xs) (hg:v.ownBlock=some g):∃cur,w.heap[g]?=some (.cells cur ty (0,0)):=by
 rcases h.2 with⟨rfl,_⟩|⟨g',cap,cur,rfl,_,h2,_⟩
 ·cases hg
 ·cases hg;exact⟨cur,h2⟩
def Ap (W:Nat) (S l:aa) (b:Nat):Prop:=b=W\/S.ownBlock=some b\/l.ownBlock=some b
structure MnW (n0:Nat) (CS:wZ) (w0:ac) (W n m base g cap k:Nat) (S:aa) (x y:ByteArray) (j:Nat) (w:ac):Prop where
 ls:lJ n0 w W CS S n
 row:∃xs,w.ownsRow base 74 2 (.slice (some ⟨g,0,none⟩) m cap) m xs/\∀i,i<j->xs[i*2]?=some (.string x)/\xs[i*2+1]?=some (.string y)
 new:∀g',mD w S g'->g'≠g
 mrk:w.heap[k]?=some (.cells #[.string x,.string y] 74 (0,0))
 gk:g<k
 but:But (Ap W S (.slice (some ⟨g,0,none⟩) m cap)) w0 w
section
variable {w0:ac} {W n m base g cap k:Nat} {S:aa} {x y:ByteArray}
theorem MnW.cells (j:Nat) (h:MnW n0 CS w0 W n m base g cap k S x y j w) (hj:j<m):(∃v,w.cell? ⟨g,j*2,none⟩=some v)/\(∃v,w.cell? ⟨g,j*2+1,none⟩=some v)/\w.frozen? ⟨g,j*2,none⟩=false/\w.frozen? ⟨g,j*2+1,none⟩=false/\w.cell? ⟨k,0,none⟩=some (.string x)/\w.cell? ⟨k,1,none⟩=some (.string y):=by
 obtain⟨xs,h1,_⟩:=h.row;rcases h1.2 with⟨e,_⟩|⟨g',Tt,cur,e,_,h2,h3,_,h5,_⟩
 ·cases e
 ·injection e with e1 e2 e3;injection e1 with e1;injection e1 with e1;subst e1;subst e3;have a1:j*2<cur.size:=by omega
  have a2:j*2+1<cur.size:=by omega
  exact⟨⟨cur[j*2],by simp[ag,h2,a1]⟩,⟨cur[j*2+1],by simp[ag,h2,a2]⟩,by simp[aC,h2],by simp[aC,h2],by simp[ag,h.mrk],by simp[ag,h.mrk]⟩
theorem MnW.stored (j:Nat) (h:MnW n0 CS w0 W n m base g cap k S x y j w) (hj:j<m):MnW n0 CS w0 W n m base g cap k S x y (j+1) ((w.setCell ⟨g,j*2,none⟩ (.string x)).setCell ⟨g,j*2+1,none⟩ (.string y)):=by
 obtain⟨xs,h1,hmk⟩:=h.row;rcases h1.2 with⟨e,_⟩|⟨g',Tt,cur,e,hb,h2,h3,h4,h5,h6⟩
 ·cases e
 ·injection e with e1 e2 e3;injection e1 with e1;injection e1 with e1;subst e1;subst e3;have s1:=xhs w g (j*2) cur _ (.string x) h2;have s2:=xhs _ g (j*2+1) _ _ (.string y) s1;have ho:∀b,b≠g->((w.setCell ⟨g,j*2,none⟩ (.string x)).setCell ⟨g,j*2+1,none⟩ (.string y)).heap[b]?=w.heap[b]?:=λb hb=>by
   rw[xho _ _ _ _ hb,xho _ _ _ _ hb]
  obtain⟨cw,mZ,_,_⟩:=h.ls.b;have hS:∀g',S.ownBlock=some g'->g'≠g:=λg' fO e=>by
   obtain⟨zs,hz⟩:=h.ls.row;obtain⟨cz,hc⟩:=jm hz fO;rw[e,h2]at hc;cases hc
  refine⟨h.ls.block (ho W λe=>by rw[e,h2]at mZ;cases mZ) (λg' fO=>ho g' (hS g' fO)) (λg' fO=>ho g' (h.new g' fO)),⟨_,⟨?_,.inr ⟨g,cap,_,rfl,hb,s2,h3,h4,by simp[h5],rfl⟩⟩,λi hi=>?_⟩,λg' fO=>h.new g' (by unfold mD at fO;rw[Ec λq hq=>ho q (hS q hq)]at fO;exact fO),(ho k (by have:=h.gk;omega)).trans h.mrk,h.gk,(h.but.setCell (.inr (.inr rfl)) _ _).setCell (.inr (.inr rfl)) _ _⟩
  ·rw[aL];simp;omega
  ·by_cases e:i=j
   ·subst e;have a1:i*2<cur.size:=by omega
    have a2:i*2+1<cur.size:=by omega
    have b1:i*2<m*2:=by omega
    have b2:i*2+1<m*2:=by omega
    constructor
    ·rw[ao b1,am,xne (by omega),xsl a1]
    ·rw[ao b2,am,xsl (by simpa using a2)]
   ·obtain⟨q1,q2⟩:=hmk i (by omega);rw[<-h6]at q1 q2;have b1:i*2<m*2:=by omega
    have b2:i*2+1<m*2:=by omega
    rw[ao b1,am]at q1;rw[ao b2,am]at q2;constructor
    ·rw[ao b1,am,xne (by omega),xne (by omega)];exact q1
    ·rw[ao b2,am,xne (by omega),xne (by omega)];exact q2
end
theorem Src.two (w:ac) (a b c d:ByteArray) (ty:aI):Src (w.alloc (.cells #[.string a,.string b,.string c,.string d] ty)) (some ⟨w.heap.size,0,none⟩) 2 [.string a,.string b,.string c,.string d]:=by
 refine⟨rfl,λad e j u hj=>?_,λh=>(by cases h),λu hu=>by simp at hu;rcases hu with rfl|rfl|rfl|rfl<;>exact⟨_,rfl⟩⟩;cases e;rw[aq,aG];match j,hj with
 |0,hj=>simp at hj;subst hj;go_simp
 |1,hj=>simp at hj;subst hj;go_simp
 |2,hj=>simp at hj;subst hj;go_simp
 |3,hj=>simp at hj;subst hj;go_simp
theorem Vr:∃i,prog.info? 47=some i/\i.zero=some (.slice none 0 0)/\i.size=1/\i.bytes=24:=by
 have h:(prog.info? 47).map (λi=>(i.zero,i.size,i.bytes))=some (some (.slice none 0 0),1,24):=by kernel_rfl
 obtain⟨i,h1,h2⟩:=Option.map_eq_some_iff.1 h;injection h2 with h2 h3;injection h3 with h3 h4;exact⟨i,h1,h2,h3,h4⟩
theorem cell1 (w:ac) (a:aa) (ty:aI):∀(j:Nat) (u:aa),[a][j]?=some u->(w.alloc (.cells #[a] ty)).cell? ((⟨w.heap.size,0,none⟩:Addr).add j)=some u:=λj u hj=>by
 rw[aq,aG];match j,hj with
 |0,hj=>simp at hj;subst hj;go_simp
theorem xg {w:ac} {base size:Nat} {ty:aI} {v:aa} (h:w.ownsRow base ty size v n xs):∃sa cp,v=.slice sa n cp:=by
 rcases h.2 with⟨rfl,hz⟩|⟨g,cap,cur,rfl,_⟩
 ·exact⟨none,0,by rw[hz]⟩
 ·exact⟨_,_,rfl⟩
theorem lJ.grow {w w3:ac} {W:Nat} {v3 l l':aa} {o:Obj} (h:lJ n0 w W CS S n) (hg:(w.alloc o).grownBy w3 S.ownBlock) (hr:w3.ownsRow n0 47 1 v3 (n+1) (xs++[l'])) (hx:w.ownsRow n0 47 1 S n xs) (hla:vL w n l') (uf:∀g,l'.ownBlock=some g->¬CS.out g):
  w3.cell? ⟨W,2,none⟩=some S/\w3.frozen? ⟨W,2,none⟩=false/\lJ n0 (w3.setCell ⟨W,2,none⟩ v3) W CS v3 (n+1)/\But (Ap W S l) w (w3.setCell ⟨W,2,none⟩ v3):=by
 obtain⟨cur,h1,h2,EA⟩:=h.b;obtain⟨zs,h3⟩:=h.row;have eH:=h.cell.2.2;have fA:some W≠S.ownBlock:=λe=>by
  obtain⟨c,hc⟩:=jm h3 e.symm;rw[h1]at hc;cases hc
 have gN:w3.heap[W]?=some (.cells cur 36 (0,0)):=(hg.block W (by simp;omega) fA).trans ((aM w o eH).trans h1);have gY:(w3.setCell ⟨W,2,none⟩ v3).ownsRow n0 47 1 v3 (n+1) (xs++[l']):=qi hr λg ig=>xho _ _ _ _ λe=>by
  obtain⟨c,hc⟩:=jm hr ig;rw[show g=W from e,gN]at hc;cases hc
 have stay:∀(b:Nat) (cur:Array aa),w.heap[b]?=some (aF cur 74 (0,0))->(w3.setCell ⟨W,2,none⟩ v3).heap[b]?=w.heap[b]?:=λb cur eZ=>by
  have hl:=(zi eZ).1;rw[xho _ _ _ _ λe=>by rw[show b=W from e,h1]at eZ;cases eZ];refine(hg.block b (by simp;omega) λe=>?_).trans (aM w o hl);obtain⟨c,hc⟩:=jm h3 e.symm;rw[eZ]at hc;cases hc
 have YO:∀k q,vL w k q->vL (w3.setCell ⟨W,2,none⟩ v3) k q:=λk q ⟨m,ys,a1,a2⟩=>⟨m,ys,qi a1 λg ig=>by
  obtain⟨c,hc⟩:=jm a1 ig
  exact stay g c hc,a2⟩
 refine⟨by simp[ag,gN,h2],by simp[aC,gN],⟨⟨_,xhs w3 W 2 cur _ _ gN,by rw[xsl ((zi h2).1)],by rw[xne (by omega),EA.1],by rw[xne (by omega),EA.2.1],by rw[xne (by omega),EA.2.2]⟩,⟨_,gY⟩,λk q hk=>?_,λg ⟨q,hq,e⟩=>?_⟩,But.setCell (B:=Ap W S l) ⟨by have:=hg.size;simp at this;omega,λb hb hn=>?_,(by rw[hg.os];rfl),(by rw[hg.output];rfl)⟩ (.inl rfl) _ _⟩
 ·rw[A8 gY]at hk;have Qi:xs.length=n:=by have:=hx.1;omega
  rcases cU k n with lZ|lZ
  ·rw[aU (by omega)]at hk;exact YO k q (h.kept k q (by rw[A8 hx];exact hk))
  ·rw[aT (by omega)]at hk;have fD:k-xs.length=0:=by
    have:=(ax.1 hk).1;simp at this;omega
   rw[fD]at hk;cases hk;obtain rfl:k=n:=by omega
   exact YO k _ hla
 ·rw[A8 gY]at hq;rcases List.mem_append.1 hq with hq|hq
  ·exact h.out g ⟨q,by rw[A8 hx];exact hq,e⟩
  ·rw[aZ]at hq;subst hq;exact uf g e
 ·exact(hg.block b (by simp;omega) λe=>hn (.inr (.inl e.symm))).trans (aM w o hb)
theorem at_new {v3 v0:aa} {z y:Nat} (h:v3.ownBlock=v0.ownBlock\/v3.ownBlock=some z) (hz:y<=z):∀q,v3.ownBlock=some q->v0.ownBlock=some q\/y<=q:=λq e=>by
 rcases h with h|h
 ·left;rw[<-h];exact e
 ·right;rw[h]at e;cases e;exact hz
theorem lJ.app {w:ac} {W:Nat} {l:aa} {o:Obj} {base:Nat} (h:lJ n0 w W CS S n) (hl:(w.alloc o).ownsRow base 74 2 l m xs) (hg:(w.alloc o).grownBy w2 l.ownBlock) (nL:∀g,mD w S g->l.ownBlock≠some g):lJ n0 w2 W CS S n/\But (Ap W S l) w w2:=by
 obtain⟨cur,h1,h2,EA⟩:=h.b;obtain⟨zs,h3⟩:=h.row;have key:∀(b:Nat) (c:Array aa) (ty:aI),w.heap[b]?=some (aF c ty (0,0))->ty≠74->w2.heap[b]?=w.heap[b]?:=λb c ty hb fA=>by
  have eH:=(zi hb).1;refine(hg.block b (by simp;omega) λe=>?_).trans (aM w o eH);obtain⟨c',hc⟩:=jm hl e.symm;rw[aM w o eH,hb]at hc;have e2:aF c ty (0,0)=aF c' 74 (0,0):=xoi hc;injection e2 with _ e3;exact fA e3
 refine⟨h.block (key W _ _ h1 (by decide)) (λg ig=>?_) (λg ig=>?_),⟨by have:=hg.size;simp at this;omega,λb hb hn=>(hg.block b (by simp;omega) λe=>hn (.inr (.inr e.symm))).trans (aM w o hb),(by rw[hg.os];rfl),(by rw[hg.output];rfl)⟩⟩
 ·obtain⟨c,hc⟩:=jm h3 ig;exact key g _ _ hc (by decide)
 ·obtain⟨c,hc⟩:=h.KF ig;have hl:=(zi hc).1;exact(hg.block g (by simp;omega) λe=>nL g ig e.symm).trans (aM w o hl)
theorem vL.two {w:ac} {base:Nat} {v:aa} {zs:List aa} {a b:ByteArray} (h:w2.ownsRow base 74 2 v (m+2) (zs++[.string a,.string b,.string a,.string b])) (hz:zs.length=m*2) (hm:∀i,i<m->zs[i*2]?=some (.string a)/\zs[i*2+1]?=some (.string b)) (ha:a=mnK/\b=mnV k):vL w2 k v:=by
 obtain⟨rfl,rfl⟩:=ha;refine⟨m+2,_,⟨h.1,h.2.imp id λ⟨g,cap,cur,e,_,r⟩=>⟨g,cap,cur,e,xzl _,r⟩⟩,λi hi=>?_⟩;by_cases CB:i<m
 ·rw[aU (by omega),aU (by omega)];exact hm i CB
 ·rw[aT (by omega),aT (by omega),hz];have:i=m\/i=m+1:=by omega
  rcases this with rfl|rfl
  ·rw[show i*2-i*2=0 by omega,show i*2+1-i*2=1 by omega];exact⟨rfl,rfl⟩
  ·rw[show(m+1)*2-m*2=2 by omega,show(m+1)*2+1-m*2=3 by omega];exact⟨rfl,rfl⟩
theorem qzo {W base cap:Nat} (h:lJ n0 w W CS S n) (hn:n<=4398046511103) (hl:w.ownsRow base 74 2 (.slice (some ⟨g,0,none⟩) m cap) m xs) (hm:m<=1073741820) (iT:n0<=w.heap.size) (nL:∀g',mD w S g'->g'≠g) (hO:∀g',CS.out g'->g'<base):
  aB prog 30 #[.pointer (some ⟨W,0,none⟩),.slice (some ⟨g,0,none⟩) m cap] w λe w'=>(e=.returned (.tuple #[]))/\(∃S',lJ n0 w' W CS S' (n+1)/\∀q,S'.ownBlock=some q->S.ownBlock=some q\/w.heap.size<=q)/\But (Ap W S (.slice (some ⟨g,0,none⟩) m cap)) w w':=by
 obtain⟨c1,c2,c3⟩:=h.cell;obtain⟨S1,S2,hS⟩:∃sa cp,S=.slice sa n cp:=by
  obtain⟨xs,h⟩:=h.row;rcases h.2 with⟨rfl,hz⟩|⟨g,cap,cur,rfl,_⟩
  ·exact⟨none,0,by rw[hz]⟩
  ·exact⟨_,_,rfl⟩
 subst hS;have HL:=Hd h;have HR:=Hd hl;have Rw:=Hd iT;have HNW:=Hd nL;have HO:=Hd hO;clear h hl iT nL hO;go_enter func30,ntmps30;go_wp2_with (go_at_call 38;refine(Nk n (by omega)).mono ?_;rintro e w1 ⟨⟨ma,mb,tC,rfl⟩,iq⟩;have lH:=Hd iq;have Ru:=Hd tC;clear iq tC)
 go_loopw [15] (λx wr=>∃j:Nat,j<=m/\x=.int .i64 j/\Hid (MnW n0 CS w W n m base g cap w1.heap.size (.slice S1 n S2) ma mb j wr)) (λx _=>m-(intOf x).toNat);case atStart=>
  have hb:=lH.alloc lH.size (.cells #[.string ma,.string mb] 74);have hg:g<w.heap.size:=(HR.lt g rfl).2;have ZC:∀g',Value.ownBlock (.slice S1 n S2)=some g'->_:=λg' fO=>hb.block g' (let⟨_,hz⟩:=HL.row;(hz.lt g' fO).2);refine⟨0,xzl _,rfl,Hd ⟨HL.block (hb.block W c3) ZC (λg' fO=>hb.block g' (let⟨_,hz⟩:=HL.KF fO;(zi hz).1)),⟨xs,qi HR.o λg' fO=>by cases fO;exact hb.block g hg,λi hi=>absurd hi (cC i)⟩,λg' fO=>HNW.o g' (by unfold mD at fO;rw[Ec ZC]at fO;exact fO),bi _ _,xll hg lH.size,.of_below hb⟩⟩
 case round=>
  obtain⟨j,hj,rfl,HM⟩:=hrel;by_cases kR:j<m
  ·obtain⟨⟨v0,d0⟩,⟨v1,d1⟩,f0,f1,k0,k1⟩:=MnW.cells j HM.o kR;have HN:=Hd (MnW.stored j HM.o kR);go_wp2;go_roundw;case rel=>exact⟨j+1,by omega,rfl,HN⟩
   case measure=>simp[intOf];omega
  ·obtain rfl:j=m:=by omega
   have k0:wr.cell? ⟨w1.heap.size,0,none⟩=some (.string ma):=by simp[ag,HM.mrk]
   have k1:wr.cell? ⟨w1.heap.size,1,none⟩=some (.string mb):=by simp[ag,HM.mrk]
   obtain⟨zs,hz,Y2⟩:=HM.row;have HZM:=Hd Y2;clear Y2;obtain⟨ys,hy⟩:=HM.ls.row;have Gu:=Hd HM.but.size;have HZ:=Hd hz;have HY:=Hd hy;clear hz hy;obtain⟨li,l1,l2,l3,l4⟩:=Vr;have HI:=Hd (aN l1 (aN l2 (aN l3 l4)));clear l1 l2 l3 l4;obtain⟨pi,l1,l2,l3,l4⟩:=VH;have HP:=Hd (aN l1 (aN l2 (aN l3 l4)));clear l1 l2 l3 l4;go_wp2_with (first
    |(at_builtin;(refine wpList_append_own _ rfl (.tmp 23) (.tmp 26) 47 rfl base 74 pi _ 2 32 underlying47 HP.1 HP.2.1 HP.2.2.1 HP.2.2.2 rfl (by decide) (.slice (some ⟨g,0,none⟩) j cap) j zs rfl (HZ.alloc _) ⟨wr.heap.size,0,none⟩ 2 2 [.string ma,.string mb,.string ma,.string mb] rfl rfl ((Src.two wr ma mb ma mb _).cell _ rfl) (by intro u hu;simp at hu;rcases hu with rfl|rfl|rfl|rfl<;>rfl) (by unfold bm;omega) (by omega) (by have:=(HZ.lt g rfl).1;have:=(HZ.lt g rfl).2;simp;omega) ?_;intro v2 w2 fe gL _;obtain⟨jC,jH,iI⟩:=xg fe;have H2:=Hd (HM.ls.app (HZ.alloc _) gL (λg' fO e=>HM.new g' fO (by cases e;rfl)));have vZ:=Hd (vL.two (w:=w2) fe HZ.1 HZM.o Ru.o);have JA:=Hd (λ(g':Nat) (fO:v2.ownBlock=some g') (ho:CS.out g')=>(Nat.not_lt.2 (aj fe g' fO).1) (HO.o g' ho));obtain⟨d2,e2,_⟩:=H2.1.cell;rw[iI]at vZ JA;rw[iI];clear fe gL iI))
    |(at_builtin;(obtain⟨qs,hq⟩:=H2.1.row;refine bQ _ rfl (.tmp 31) (.tmp 33) 34 rfl n0 47 li _ 1 24 underlying34 HI.1 HI.2.1 HI.2.2.1 HI.2.2.2 rfl (by decide) (.slice S1 n S2) n qs rfl (hq.alloc _) ⟨w2.heap.size,0,none⟩ 1 1 [.slice jC (j+2) jH] rfl rfl (cell1 w2 _ _) (by intro u hu;simp at hu;subst hu;rfl) (by unfold bm;omega) (by omega) (by have a0:=Rw.o;have a1:=Gu.o;have a2:=H2.2.size;simp;omega) ?_;intro v3 w3 fF jW _ BK;have Ju:Hid (∀q,v3.ownBlock=some q->Value.ownBlock (.slice S1 n S2)=some q\/w.heap.size<=q):=Hd (at_new BK (by have a1:=Gu.o;have a2:=H2.2.size;simp;omega));obtain⟨mQ,ni,nG⟩:=xg fF;have H3:=Hd (H2.1.grow (l:=.slice (some ⟨g,0,none⟩) j cap) jW fF hq vZ.o JA.o);rw[nG]at H3 Ju;obtain⟨d3,e3,_⟩:=H3.o;rw[nG];clear fF jW nG hq BK)))
   go_end0;exact⟨rfl,⟨_,H3.2.2.1,Ju.o⟩,(HM.but.trans H2.2).trans H3.2.2.2⟩
theorem q37 {W:Nat} (h:lJ n0 w W CS S n) (hn:n<=4398046511103) (iT:n0<=w.heap.size) (hO:∀g',CS.out g'->g'<w.heap.size):
  aB prog 30 #[.pointer (some ⟨W,0,none⟩),.slice none 0 0] w λe w'=>(e=.returned (.tuple #[]))/\(∃S',lJ n0 w' W CS S' (n+1)/\∀q,S'.ownBlock=some q->S.ownBlock=some q\/w.heap.size<=q)/\But (Ap W S (.slice none 0 0)) w w':=by
 obtain⟨c1,c2,c3⟩:=h.cell;obtain⟨S1,S2,hS⟩:∃sa cp,S=.slice sa n cp:=by
  obtain⟨xs,h⟩:=h.row;exact xg h
 subst hS;have HL:=Hd h;have Rw:=Hd iT;have HO:=Hd hO;clear h iT hO;obtain⟨li,l1,l2,l3,l4⟩:=Vr;have HI:=Hd (aN l1 (aN l2 (aN l3 l4)));clear l1 l2 l3 l4;go_enter func30,ntmps30;go_wp2_with (go_at_call 38;refine(Nk n (by omega)).mono ?_;rintro e w1 ⟨⟨ma,mb,tC,rfl⟩,iq⟩;have lH:=Hd iq;have Ru:=Hd tC;clear iq tC)
 refine aD 1 ?_;rw[ai];have hb:=lH.alloc lH.size (.cells #[.string ma,.string mb] 74);have HL1:Hid (lJ n0 (w1.alloc (.cells #[.string ma,.string mb] 74)) W CS (.slice S1 n S2) n):=Hd (HL.block (hb.block W c3) (λg' fO=>hb.block g' (let⟨_,hz⟩:=HL.row;(hz.lt g' fO).2)) (λg' fO=>hb.block g' (let⟨_,hz⟩:=HL.KF fO;(zi hz).1)));have Gu:=Hd hb.size;have iC:=Hd (But.of_below (B:=Ap W (.slice S1 n S2) (.slice none 0 0)) hb);clear hb;have k0:(w1.alloc (.cells #[.string ma,.string mb] 74)).cell? ⟨w1.heap.size,0,none⟩=some (.string ma):=by go_simp
 have k1:(w1.alloc (.cells #[.string ma,.string mb] 74)).cell? ⟨w1.heap.size,1,none⟩=some (.string mb):=by go_simp
 generalize w1.alloc (.cells #[.string ma,.string mb] 74)=wr at*;go_wp2_with (first
  |(at_builtin;refine zu (v:=.slice none 0 0) (base:=w.heap.size) rfl (.tmp 23) (.tmp 26) rfl rfl rfl (aQ _ _ _ _) (kS.nil _) (Src.two _ ma mb ma mb _) (by omega) (by have a1:=Gu.o;simp;omega) ?_;intro v2 w2 fe yY gL;obtain⟨jC,jH,iI⟩:=xg fe;have H2:=Hd (HL1.app (aQ _ 0 _ _) gL (λg' _ e=>by cases e));have vZ:=Hd (vL.two (w:=w2) (m:=0) (zs:=[]) fe rfl (λi hi=>absurd hi (cC i)) Ru.o);have JA:=Hd (λ(g':Nat) (fO:v2.ownBlock=some g') (ho:CS.out g')=>(Nat.not_lt.2 (aj fe g' fO).1) (HO.o g' ho));obtain⟨d2,e2,_⟩:=H2.1.cell;rw[aG]at iI;rw[iI]at vZ JA;rw[iI];clear fe yY gL iI)
  |(at_builtin;(obtain⟨qs,hq⟩:=H2.1.row;refine bQ _ rfl (.tmp 31) (.tmp 33) 34 rfl n0 47 li _ 1 24 underlying34 HI.1 HI.2.1 HI.2.2.1 HI.2.2.2 rfl (by decide) (.slice S1 n S2) n qs rfl (hq.alloc _) ⟨w2.heap.size,0,none⟩ 1 1 [.slice jC 2 jH] rfl rfl (cell1 w2 _ _) (by intro u hu;simp at hu;subst hu;rfl) (by unfold bm;omega) (by omega) (by have a0:=Rw.o;have a1:=Gu.o;have a2:=H2.2.size;simp;omega) ?_;intro v3 w3 fF jW _ BK;have Ju:Hid (∀q,v3.ownBlock=some q->Value.ownBlock (.slice S1 n S2)=some q\/w.heap.size<=q):=Hd (at_new BK (by have a1:=Gu.o;have a2:=H2.2.size;simp;omega));obtain⟨mQ,ni,nG⟩:=xg fF;have H3:=Hd (H2.1.grow (l:=.slice none 0 0) jW fF hq vZ.o JA.o);rw[nG]at H3 Ju;obtain⟨d3,e3,_⟩:=H3.o;rw[nG];clear fF jW nG hq BK)))
 go_end0;exact⟨rfl,⟨_,H3.2.2.1,Ju.o⟩,(iC.trans H2.2).trans H3.2.2.2⟩
end
def mpA:Option Nat->Option Addr
 |none=>none
 |some g=>some ⟨g,0,none⟩
def ptr:Option Nat->aa
 |none=>.pointer none
 |some g=>.pointer (some ⟨g,0,none⟩)
theorem GN (o:Option Nat):ptr o=.pointer (mpA o):=by cases o<;>rfl
def pkV (h k:Nat):aa:=.agg #[.int .i64 h,.int .i64 k]
noncomputable def pk (h k:Nat):Lit:=(keyOf prog 154 (pkV h k)).getD .nil
theorem jjm:((aw 16).all λi=>(keyOf prog 154 (pkV (i/4) (i%4))).isSome)=true:=by kernel_rfl
theorem jdm (h:Nat) (hh:h<4) (k:Nat) (hk:k<4):(keyOf prog 154 (pkV h k)).isSome=true:=by
 have:=bI.1 jjm (h*4+k) (bE.2 (by omega));rwa [show(h*4+k)/4=h by omega,show(h*4+k)%4=k by omega]at this
theorem Dq (hh:h<4) (hk:k<4):keyOf prog 154 (pkV h k)=some (pk h k):=by
 obtain⟨l,hl⟩:=Option.isSome_iff_exists.1 (jdm h hh k hk);unfold pk;rw[hl];rfl
theorem qz0:laidOutB prog=true:=by kernel_rfl
theorem q46:(154:aI)<prog.types.size:=of_decide_eq_true (by kernel_rfl)
theorem qz1:(match prog.underlying 154 with|some (.array _ _)|some (.struct _)=>true|_=>false)=true:=by rw[underlying154]
theorem Ay:Keyed prog 154:=Keyed.of_law (deep_law_laid qz0 (m:=3) (by omega) q46 (by kernel_rfl) qz1)
theorem Km {h' k':Nat} (hh:h<4) (hk:k<4) (hh':h'<4) (rZ:k'<4) (e:pk h k=pk h' k'):h=h'/\k=k':=by
 have:=Ay.inj (Dq hh hk) (e▸Dq hh' rZ);simp only[pkV,Value.agg.injEq]at this;have e2:=congrArg Array.toList this;simp at e2;omega
theorem GQ (hh:h<4) (hk:k<4):WideAt.IsKeyLit (pk h k):=Ay.key (Dq hh hk)
def Rp:aa->Option (bO Unit×List bz)
 |.pointer none=>some (.lit .nil,[])
 |.pointer (some ⟨g,0,none⟩)=>some (.lit (.int .i64 g),[])
 |_=>none
def pd:Option Nat->bO Unit
 |none=>.lit .nil
 |some g=>.lit (.int .i64 g)
theorem jby (o:Option Nat):Rp (ptr o)=some (pd o,[]):=by cases o<;>rfl
theorem X7 {v:aa} {o:Option Nat} {ps:List bz} (h:Rp v=some (pd o,ps)):v=ptr o:=by
 unfold Rp at h;split at h
 ·cases o with
  |none=>rfl
  |some g=>simp[pd]at h
 ·cases o with
  |none=>simp[pd]at h
  |some g=>simp only[pd,Option.some.injEq,Prod.mk.injEq,DataW.lit.injEq,Lit.int.injEq,true_and,Int.natCast_inj]at h;rw[h.1];rfl
 ·cases h
def mY (w:ac) (sm:Nat) (f:Nat->Nat->Option Nat):Prop:= ∃n D,w.ownsMap prog 154 Rp sm n D/\(∀h k,h<4->k<4->D.atKey (pk h k) (pd none)=pd (f h k))/\∀kl,Maps.has D kl=true->∃h k,h<4/\k<4/\kl=pk h k/\(f h k).isSome=true
def yh {α:Type} (f:Nat->Nat->Option α) (h k:Nat) (o:Option α):Nat->Nat->Option α:=λa b=>if a=h/\b=k then o else f a b
theorem sM {α:Type} (f:Nat->Nat->Option α) (h k:Nat) (o:Option α):yh f h k o h k=o:=by unfold yh;rw[if_pos ⟨rfl,rfl⟩]
theorem vg {α:Type} {f:Nat->Nat->Option α} {a:Nat} {o:Option α} (e:¬(a=h/\b=k)):yh f h k o a b=f a b:=by unfold yh;rw[if_neg e]
section
variable {w w':ac} {sm h k:Nat} {f:Nat->Nat->Option Nat}
theorem mY.lt (m:mY w sm f):sm<w.heap.size:=by
 obtain⟨n,D,ho,_⟩:=m;exact ho.lt
theorem mY.map (m:mY w sm f):∃es ck,w.heap[sm]?=some (.map es ck):=by
 obtain⟨n,D,⟨es,ck,hb,_⟩,_⟩:=m;exact⟨es,ck,hb⟩
theorem mY.block (m:mY w sm f) (e:w'.heap[sm]?=w.heap[sm]?):mY w' sm f:=by
 obtain⟨n,D,⟨es,ck,hb,r⟩,m2,m3⟩:=m;exact⟨n,D,⟨es,ck,e.trans hb,r⟩,m2,m3⟩
theorem mY.ty (m:mY w sm f) {cur:Array aa} {ty:aI} (hb:w.heap[b]?=some (.cells cur ty (0,0))):b≠sm:=λe=>by
 obtain⟨es,ck,h⟩:=m.map;rw[e,h]at hb;cases hb
theorem mY.q4p (hb:w.heap[sm]?=some (.map #[] 0)):mY w sm (λ_ _=>none):=⟨0,.map [],⟨#[],0,hb,⟨by simp,MapKept.stamped_empty 0,by simp⟩,ji _,rfl⟩,λh k _ _=>rfl,λkl h=>by simp[Maps.has]at h⟩
theorem mY.few (m:mY w sm f):∃D,w.ownsMap prog 154 Rp sm 16 D/\(∀h k,h<4->k<4->D.atKey (pk h k) (pd none)=pd (f h k))/\∀kl,Maps.has D kl=true->∃h k,h<4/\k<4/\kl=pk h k/\(f h k).isSome=true:=by
 obtain⟨n,D,ho,m2,m3⟩:=m;refine⟨D,?_,m2,m3⟩;obtain⟨gM,e0,hp,kZ⟩:=ho.entries Ay;obtain⟨es,ck,hb,F,hs,hD⟩:=ho;refine⟨es,ck,hb,F,?_,hD⟩;have hl:es.size=gM.length:=by
  rw[e0]at hD;injection hD with hD;rw[hD,length_sorted];simp
 rw[hl,<-bB (f:=Prod.fst)];have iW:gM.map Prod.fst ⊆ (aw 4).flatMap λh=>(aw 4).map λk=>pk h k:=λl hl=>by
  obtain⟨p,Md,rfl⟩:=List.mem_map.1 hl;obtain⟨h,k,hh,hk,e,_⟩:=m3 p.1 (by rw[e0,Maps.has_eq,List.any_eq_true];exact⟨p,Md,WideAt.sameKey_self (kZ p Md)⟩);rw[e];exact List.mem_flatMap.2 ⟨h,bE.2 hh,List.mem_map.2 ⟨k,bE.2 hk,rfl⟩⟩
 have:=List.Nodup.length_le_of_subset ((ce.2 hp:(gM.map Prod.fst).Pairwise (· ≠·))) iW;exact this
theorem jap (w:ac):(zeroValue 155).run prog w=.ok (.pointer none) w:=by kernel_rfl
theorem mY.look (m:mY w sm f) (hh:h<4) (hk:k<4):(Instr.lookup 76 (.map (some sm)) (pkV h k) false).run prog w=.ok (ptr (f h k)) w:=by
 obtain⟨n,D,ho,m2,_⟩:=m;obtain⟨v,ps,fu,hv⟩:=ho.lookup Ay underlying76 (jap w) (zd:=pd none) (zp:=[]) rfl (Dq hh hk);rw[m2 h k hh hk]at hv;rw[fu,X7 hv]
theorem mY.put (m:mY w sm f) (hh:h<4) (hk:k<4) (g:Nat):∃w',(Instr.mapUpdate 76 (.map (some sm)) (pkV h k) (.pointer (some ⟨g,0,none⟩))).run prog w=.ok () w'/\mY w' sm (yh f h k (some g))/\But (· =sm) w w':=by
 obtain⟨D,ho,m2,m3⟩:=m.few;obtain⟨w',fu,wQ,hg⟩:=ho.update Ay underlying76 (by decide) (Dq hh hk) (jby (some g));refine⟨w',fu,⟨_,_,wQ,λa b ha hb=>?_,λkl xR=>?_⟩,⟨hg.size,λi hi hb=>hg.block i hi (by simpa using hb),hg.os,hg.output⟩⟩
 ·by_cases e:a=h/\b=k
  ·obtain⟨rfl,rfl⟩:=e;rw[sM,Maps.atKey_put_same ho.isMap (GQ ha hb)]
  ·rw[vg e,Maps.atKey_put_other (λe2=>e (Km ha hb hh hk e2)),m2 a b ha hb]
 ·by_cases e:kl=pk h k
  ·exact⟨h,k,hh,hk,e,by rw[sM];rfl⟩
  ·rw[Maps.has_put_other e]at xR;obtain⟨a,b,ha,hb,e2,e3⟩:=m3 kl xR;exact⟨a,b,ha,hb,e2,by rw[vg (λe4=>e (by rw[e2,e4.1,e4.2]))];exact e3⟩
end
structure Chg where
 k:Bs
 v:Bs
 g:Bool
structure Mv where
 id:Nat
 fr:Nat
 to:Nat
 ps:KV
 cs:List Chg
 sent:Bs
 n:Nat
 kind:Nat
 parts:Nat
 sealed:Bool
structure Sg where
 id:Nat
 next:Nat
 kv:KV
 done:Bool
structure St where
 hosts:Nat
 ow:Nat->Nat
 kv:Nat->KV
 mv:Nat->Option Mv
 sg:Nat->Nat->Option Sg
 id:Nat
 ep:Nat
def x9 (l:List Chg):List aa:=l.flatMap λc=>[sv c.k,sv c.v,.bool c.g]
structure PA where
 cl:Nat
 db:Nat->Nat
 mb:Nat->Nat
 mp:Nat->Option Nat
 pv:Nat->aa
 cv:Nat->aa
 ld:Nat->ByteArray
 sm:Nat
 sP:Nat->Nat->Nat×Nat×Nat
def kz (A:PA) (s:St):Array aa:=
 #[.int .i64 s.hosts,.int .i64 (s.ow 0),ptr (some (A.db 0)),ptr (A.mp 0),.int .i64 (s.ow 1),ptr (some (A.db 1)),ptr (A.mp 1),.int .i64 (s.ow 2),ptr (some (A.db 2)),ptr (A.mp 2),.int .i64 (s.ow 3),ptr (some (A.db 3)),ptr (A.mp 3),.map (some A.sm),.int .i64 s.id,.int .i64 s.ep]
def zw (k:Nat) (pv cv:aa) (ld:ByteArray) (m:Mv):Array aa:=
 #[.int .i64 m.id,.int .i64 m.fr,.int .i64 m.to,pv,cv,.int .u8 m.kind,.int .i64 k,.int .i64 m.id,.int .i64 m.n,.string ld,sv m.sent,.int .i64 m.parts,.bool m.sealed]
def Ir (w:ac) (v:aa) (l:KV):Prop:=w.ownsRow 0 74 2 v l.length (flat l)
def wE (w:ac) (v:aa) (l:List Chg):Prop:=w.ownsRow 0 87 3 v l.length (x9 l)
def mU (w:ac) (F:Nat->Prop) (A:PA) (i:Nat):Option Mv->Prop
 |none=>A.mp i=none/\(A.cv i).ownBlock=none
 |some m=>∃g,A.mp i=some g/\F g/\w.heap[g]?=some (.cells (zw i (A.pv i) (A.cv i) (A.ld i) m) 135 (0,0))/\Ir w (A.pv i) m.ps/\wE w (A.cv i) m.cs/\(∀b,(A.pv i).ownBlock=some b->F b)/\∀b,(A.cv i).ownBlock=some b->F b
structure jP (w:ac) (sb db mb id next:Nat) (done:Bool) (kv:KV):Prop where
 s:w.heap[sb]?=some (.cells #[.int .i64 id,.int .i64 next,.pointer (some ⟨db,0,none⟩),.bool done] 157 (0,0))
 d:w.heap[db]?=some (.cells #[.map (some mb)] 142 (0,0))
 m:zk w mb kv
structure sF (w:ac) (F:Nat->Prop) (A:PA) (sg:Nat->Nat->Option Sg):Prop where
 f:F A.sm
 m:mY w A.sm λh k=>(sg h k).map λ_=>(A.sP h k).1
 e:∀h k x,h<4->k<4->sg h k=some x->(F (A.sP h k).1/\F (A.sP h k).2.1/\F (A.sP h k).2.2)/\jP w (A.sP h k).1 (A.sP h k).2.1 (A.sP h k).2.2 x.id x.next x.done x.kv
 i:∀h k a b,h<4->k<4->a<4->b<4->(sg h k).isSome=true->(sg a b).isSome=true->(A.sP h k).1=(A.sP a b).1\/(A.sP h k).2.2=(A.sP a b).2.2->h=a/\k=b
 n:∀h k,h<4->k<4->(sg h k).isSome=true->A.sm≠(A.sP h k).2.2/\∀i,i<4->A.mb i≠(A.sP h k).2.2
structure yc (w:ac) (F:Nat->Prop) (A:PA) (s:St):Prop where
 cl:F A.cl/\w.heap[A.cl]?=some (.cells (kz A s) 83 (0,0))
 db:∀i,i<4->F (A.db i)/\w.heap[A.db i]?=some (.cells #[.map (some (A.mb i))] 142 (0,0))
 mb:∀i,i<4->F (A.mb i)/\zk w (A.mb i) (s.kv i)
 mbi:∀i j,i<4->j<4->A.mb i=A.mb j->i=j
 mv:∀i,i<4->mU w F A i (s.mv i)
 mpi:∀i j g,i<4->j<4->A.mp i=some g->A.mp j=some g->i=j
 cvi:∀i j g,i<4->j<4->(A.cv i).ownBlock=some g->(A.cv j).ownBlock=some g->i=j
 yu:sF w F A s.sg
 smb:∀i,i<4->A.mb i≠A.sm
section
variable {w w':ac} {F F':Nat->Prop} {A:PA} {s:St}
theorem Ir.block {v:aa} {l:KV} (h:Ir w v l) (k:∀g,v.ownBlock=some g->w'.heap[g]?=w.heap[g]?):Ir w' v l:=qi h k
theorem wE.block {v:aa} {l:List Chg} (h:wE w v l) (k:∀g,v.ownBlock=some g->w'.heap[g]?=w.heap[g]?):wE w' v l:=qi h k
theorem mU.frame {m:Option Mv} (h:mU w F A i m) (k:∀b,F b->w'.heap[b]?=w.heap[b]?):mU w' F A i m:=by
 cases m with
 |none=>exact h
 |some m=>
  obtain⟨g,h1,h2,h3,h4,h5,h6,h7⟩:=h;exact⟨g,h1,h2,(k g h2).trans h3,h4.block λb hb=>k b (h6 b hb),h5.block λb hb=>k b (h7 b hb),h6,h7⟩
theorem mU.mono {m:Option Mv} (h:mU w F A i m) (k:∀b,F b->F' b):mU w F' A i m:=by
 cases m with
 |none=>exact h
 |some m=>
  obtain⟨g,h1,h2,h3,h4,h5,h6,h7⟩:=h;exact⟨g,h1,k _ h2,h3,h4,h5,λb hb=>k b (h6 b hb),λb hb=>k b (h7 b hb)⟩
theorem jP.block {sb id next:Nat} {done:Bool} {kv:KV} (h:jP w sb db mb id next done kv) (k:∀b,b=sb\/b=db\/b=mb->w'.heap[b]?=w.heap[b]?):jP w' sb db mb id next done kv:=⟨(k _ (.inl rfl)).trans h.s,(k _ (.inr (.inl rfl))).trans h.d,h.m.block (k _ (.inr (.inr rfl)))⟩
theorem sF.frame {sg:Nat->Nat->Option Sg} (h:sF w F A sg) (k:∀b,F b->w'.heap[b]?=w.heap[b]?) (hF:∀b,F b->F' b):sF w' F' A sg:=
 ⟨hF _ h.f,h.m.block (k _ h.f),λa b x ha hb hx=>by
  obtain⟨⟨h1,h2,h3⟩,h4⟩:=h.e a b x ha hb hx
  exact⟨⟨hF _ h1,hF _ h2,hF _ h3⟩,h4.block λq hq=>k q (by rcases hq with rfl|rfl|rfl<;>assumption)⟩,h.i,h.n⟩
theorem sF.keep {sg:Nat->Nat->Option Sg} {C:PA} (h:sF w F A sg) (kT:∀(b:Nat) (cur:Array aa) (ty:aI),w.heap[b]?=some (aF cur ty (0,0))->ty=157\/ty=142->w'.heap[b]?=w.heap[b]?)
  (kM:∀b,(∃es ck,w.heap[b]?=some (Obj.map es ck))->(b=A.sm\/∃x y,x<4/\y<4/\(sg x y).isSome=true/\b=(A.sP x y).2.2)->w'.heap[b]?=w.heap[b]?) (hF:∀b,F b->F' b) (e1:C.sm=A.sm) (e2:C.sP=A.sP) (e3:C.mb=A.mb):sF w' F' C sg:=by
 refine⟨e1▸hF _ h.f,?_,λa b x ha hb hx=>?_,by rw[e2];exact h.i,by rw[e1,e2,e3];exact h.n⟩
 ·rw[e1,e2];exact h.m.block (kM _ h.m.map (.inl rfl))
 ·rw[e2];obtain⟨⟨h1,h2,h3⟩,h4⟩:=h.e a b x ha hb hx;obtain⟨es,ck,gK,_⟩:=h4.m;exact⟨⟨hF _ h1,hF _ h2,hF _ h3⟩,(kT _ _ _ h4.s (.inl rfl)).trans h4.s,(kT _ _ _ h4.d (.inr rfl)).trans h4.d,h4.m.block (kM _ ⟨es,ck,gK⟩ (.inr ⟨a,b,ha,hb,by rw[hx];rfl,rfl⟩))⟩
theorem sF.lts {sg:Nat->Nat->Option Sg} (h:sF w F A sg):sF w (λb=>F b/\b<w.heap.size) A sg:=
 ⟨⟨h.f,h.m.lt⟩,h.m,λa b x ha hb hx=>by
  obtain⟨⟨h1,h2,h3⟩,h4⟩:=h.e a b x ha hb hx
  exact⟨⟨⟨h1,(zi h4.s).1⟩,⟨h2,(zi h4.d).1⟩,⟨h3,h4.m.lt⟩⟩,h4⟩,h.i,h.n⟩
theorem yc.frame (h:yc w F A s) (k:∀b,F b->w'.heap[b]?=w.heap[b]?):yc w' F A s:=
 ⟨⟨h.cl.1,(k _ h.cl.1).trans h.cl.2⟩,λi hi=>⟨(h.db i hi).1,(k _ (h.db i hi).1).trans (h.db i hi).2⟩,λi hi=>⟨(h.mb i hi).1,(h.mb i hi).2.block (k _ (h.mb i hi).1)⟩,h.mbi,λi hi=>(h.mv i hi).frame k,h.mpi,h.cvi,h.yu.frame k λ_ h=>h,h.smb⟩
theorem yc.mono (h:yc w F A s) (k:∀b,F b->F' b):yc w F' A s:=
 ⟨⟨k _ h.cl.1,h.cl.2⟩,λi hi=>⟨k _ (h.db i hi).1,(h.db i hi).2⟩,λi hi=>⟨k _ (h.mb i hi).1,(h.mb i hi).2⟩,h.mbi,λi hi=>(h.mv i hi).mono k,h.mpi,h.cvi,h.yu.frame (λ_ _=>rfl) k,h.smb⟩
theorem yc.clt (h:yc w F A s):A.cl<w.heap.size:=(zi h.cl.2).1
theorem mU.lt {m:Option Mv} (h:mU w F A i m):mU w (λb=>F b/\b<w.heap.size) A i m:=by
 cases m with
 |none=>exact h
 |some m=>
  obtain⟨g,h1,h2,h3,h4,h5,h6,h7⟩:=h;exact⟨g,h1,⟨h2,(zi h3).1⟩,h3,h4,h5,λb hb=>⟨h6 b hb,(aj h4 b hb).2⟩,λb hb=>⟨h7 b hb,(aj h5 b hb).2⟩⟩
theorem yc.lts (h:yc w F A s):yc w (λb=>F b/\b<w.heap.size) A s:=
 ⟨⟨⟨h.cl.1,h.clt⟩,h.cl.2⟩,λi hi=>⟨⟨(h.db i hi).1,(zi (h.db i hi).2).1⟩,(h.db i hi).2⟩,λi hi=>⟨⟨(h.mb i hi).1,(h.mb i hi).2.lt⟩,(h.mb i hi).2⟩,h.mbi,λi hi=>(h.mv i hi).lt,h.mpi,h.cvi,h.yu.lts,h.smb⟩
theorem yc.below (h:yc w F A s) (hb:aA w.heap.size w w'):yc w' F A s:=(h.lts.frame λb gK=>hb.block b gK.2).mono λ_ h=>h.1
theorem yc.cells (h:yc w F A s) (j:Nat) (v:aa) (hj:(kz A s)[j]?=some v):w.cell? ⟨A.cl,j,none⟩=some v/\w.frozen? ⟨A.cl,j,none⟩=false:=⟨by simp[ag,h.cl.2,hj],by simp[aC,h.cl.2]⟩
theorem Lx (A:PA) (s:St) (i:Nat) (hi:i<4):(kz A s)[1+i*3]?=some (.int .i64 (s.ow i))/\(kz A s)[1+i*3+1]?=some (ptr (some (A.db i)))/\(kz A s)[1+i*3+2]?=some (ptr (A.mp i)):=by
 match i,hi with
 |0,_|1,_|2,_|3,_=>exact⟨rfl,rfl,rfl⟩
theorem yc.part (h:yc w F A s) (i:Nat) (hi:i<4):uK w A.cl i (A.db i) (A.mb i) (mpA (A.mp i)) (s.kv i):=by
 obtain⟨_,h2,h3⟩:=Lx A s i hi;exact⟨(h.cells _ _ h2).1,by rw[<-GN];exact(h.cells _ _ h3).1,by simp[ag,(h.db i hi).2],(h.mb i hi).2⟩
end
structure RSg where
 h:Nat
 k:Nat
 x:Sg
 v:aa
def lD (l:List RSg):List aa:=l.flatMap λe=>[.int .i64 e.h,.int .i64 e.k,.int .i64 e.x.id,.int .i64 e.x.next,e.v,.bool e.x.done]
structure MA where
 ml:Nat
 sb:Nat
 lv:Nat->aa
 mp:Nat->Option Nat
 pv:Nat->aa
 cv:Nat->aa
 sg:aa
 cap:Nat
 sl:List RSg
def xI (B:MA) (s:St):Array aa:=#[.int .i64 s.hosts,.slice (some ⟨B.sb,0,none⟩) 4 B.cap,B.sg,.int .i64 s.id,.int .i64 s.ep]
def vv (pv cv:aa) (m:Mv):Array aa:=#[.int .i64 m.id,.int .i64 m.fr,.int .i64 m.to,pv,cv,sv m.sent,.int .i64 m.n,.int .i64 m.kind,.int .i64 m.parts,.bool m.sealed]
def yT (w:ac) (v:aa) (l:List Chg):Prop:=w.ownsRow 0 60 3 v l.length (x9 l)
def nD (w:ac) (F:Nat->Prop) (B:MA) (i:Nat):Option Mv->Prop
 |none=>B.mp i=none/\(B.cv i).ownBlock=none
 |some m=>∃g,B.mp i=some g/\F g/\w.heap[g]?=some (.cells (vv (B.pv i) (B.cv i) m) 110 (0,0))/\Ir w (B.pv i) m.ps/\yT w (B.cv i) m.cs/\(∀b,(B.pv i).ownBlock=some b->F b)/\∀b,(B.cv i).ownBlock=some b->F b
structure vk (w:ac) (F:Nat->Prop) (B:MA) (sg:Nat->Nat->Option Sg):Prop where
 r:w.ownsRow 0 191 6 B.sg B.sl.length (lD B.sl)
 rF:∀b,B.sg.ownBlock=some b->F b
 e:∀e∈B.sl,e.h<4/\e.k<4/\sg e.h e.k=some e.x/\zy w 0 e.v e.x.kv/\∀b,e.v.ownBlock=some b->F b
 nd:B.sl.Pairwise λa b=>¬(a.h=b.h/\a.k=b.k)
 all:∀h k,h<4->k<4->(sg h k).isSome=true->∃e∈B.sl,e.h=h/\e.k=k
structure yx (w:ac) (F:Nat->Prop) (B:MA) (s:St):Prop where
 ml:F B.ml/\w.heap[B.ml]?=some (.cells (xI B s) 101 (0,0))
 sb:F B.sb/\∃cur,w.heap[B.sb]?=some (.cells cur 104 (0,0))/\∀i,i<4->cur[i*3]?=some (.int .i64 (s.ow i))/\cur[i*3+1]?=some (B.lv i)/\cur[i*3+2]?=some (.pointer (mpA (B.mp i)))
 r:∀i,i<4->zy w 0 (B.lv i) (s.kv i)/\∀b,(B.lv i).ownBlock=some b->F b
 mv:∀i,i<4->nD w F B i (s.mv i)
 mpi:∀i j g,i<4->j<4->B.mp i=some g->B.mp j=some g->i=j
 cvi:∀i j g,i<4->j<4->(B.cv i).ownBlock=some g->(B.cv j).ownBlock=some g->i=j
 yu:vk w F B s.sg
section
variable {w w':ac} {F F':Nat->Prop} {B:MA} {s:St} {n:Nat}
theorem yT.block {v:aa} {l:List Chg} (h:yT w v l) (k:∀g,v.ownBlock=some g->w'.heap[g]?=w.heap[g]?):yT w' v l:=qi h k
theorem nD.frame {m:Option Mv} (h:nD w F B i m) (k:∀b,F b->w'.heap[b]?=w.heap[b]?):nD w' F B i m:=by
 cases m with
 |none=>exact h
 |some m=>
  obtain⟨g,h1,h2,h3,h4,h5,h6,h7⟩:=h;exact⟨g,h1,h2,(k g h2).trans h3,h4.block λb hb=>k b (h6 b hb),h5.block λb hb=>k b (h7 b hb),h6,h7⟩
theorem nD.mono {m:Option Mv} (h:nD w F B i m) (k:∀b,F b->F' b):nD w F' B i m:=by
 cases m with
 |none=>exact h
 |some m=>
  obtain⟨g,h1,h2,h3,h4,h5,h6,h7⟩:=h;exact⟨g,h1,k _ h2,h3,h4,h5,λb hb=>k b (h6 b hb),λb hb=>k b (h7 b hb)⟩
theorem nD.lt {m:Option Mv} (h:nD w F B i m):nD w (λb=>F b/\b<w.heap.size) B i m:=by
 cases m with
 |none=>exact h
 |some m=>
  obtain⟨g,h1,h2,h3,h4,h5,h6,h7⟩:=h;exact⟨g,h1,⟨h2,(zi h3).1⟩,h3,h4,h5,λb hb=>⟨h6 b hb,(aj h4 b hb).2⟩,λb hb=>⟨h7 b hb,(aj h5 b hb).2⟩⟩
theorem nD.same {C:MA} {m:Option Mv} (h:nD w F B i m) (e1:C.mp i=B.mp i) (e2:C.pv i=B.pv i) (e3:C.cv i=B.cv i):nD w F C i m:=by
 cases m with
 |none=>exact⟨e1.trans h.1,by rw[e3];exact h.2⟩
 |some m=>
  obtain⟨g,h1,h2,h3,h4,h5,h6,h7⟩:=h;exact⟨g,e1.trans h1,h2,by rw[e2,e3];exact h3,by rw[e2];exact h4,by rw[e3];exact h5,by rw[e2];exact h6,by rw[e3];exact h7⟩
theorem nD.keep {m:Option Mv} (h:nD w F B i m) (k1:∀b cur,B.mp i=some b->w.heap[b]?=some (aF cur 110 (0,0))->w'.heap[b]?=w.heap[b]?) (k2:∀b cur,(B.pv i).ownBlock=some b->w.heap[b]?=some (aF cur 74 (0,0))->w'.heap[b]?=w.heap[b]?) (k3:∀b cur,(B.cv i).ownBlock=some b->w.heap[b]?=some (aF cur 60 (0,0))->w'.heap[b]?=w.heap[b]?):nD w' F B i m:=by
 cases m with
 |none=>exact h
 |some m=>
  obtain⟨g,h1,h2,h3,h4,h5,h6,h7⟩:=h;refine⟨g,h1,h2,(k1 g _ h1 h3).trans h3,h4.block λb hb=>?_,h5.block λb hb=>?_,h6,h7⟩
  ·obtain⟨c,hc⟩:=jm h4 hb;exact k2 b _ hb hc
  ·obtain⟨c,hc⟩:=jm h5 hb;exact k3 b _ hb hc
theorem vk.keep {C:MA} {sg:Nat->Nat->Option Sg} (h:vk w F B sg) (kT:∀(b:Nat) (cur:Array aa) (ty:aI),w.heap[b]?=some (aF cur ty (0,0))->F b->ty=191\/ty=74->w'.heap[b]?=w.heap[b]?) (hF:∀b,F b->F' b) (e1:C.sg=B.sg) (e2:C.sl=B.sl):vk w' F' C sg:=by
 refine⟨?_,by rw[e1];exact λb hb=>hF b (h.rF b hb),?_,by rw[e2];exact h.nd,by rw[e2];exact h.all⟩
 ·rw[e1,e2];refine qi h.r λg hg=>?_;obtain⟨c,hc⟩:=jm h.r hg;exact kT g c _ hc (h.rF g hg) (.inl rfl)
 ·rw[e2];intro e he;obtain⟨a1,a2,a3,a4,a5⟩:=h.e e he;exact⟨a1,a2,a3,a4.block λg hg=>by
   obtain⟨c,hc⟩:=a4.ty hg
   exact kT g c _ hc (a5 g hg) (.inr rfl),λb hb=>hF b (a5 b hb)⟩
theorem vk.lts {sg:Nat->Nat->Option Sg} (h:vk w F B sg):vk w (λb=>F b/\b<w.heap.size) B sg:=
 ⟨h.r,λb hb=>⟨h.rF b hb,(aj h.r b hb).2⟩,λe he=>by
  obtain⟨a1,a2,a3,a4,a5⟩:=h.e e he
  exact⟨a1,a2,a3,a4,λb hb=>⟨a5 b hb,(aj a4.1 b hb).2⟩⟩,h.nd,h.all⟩
theorem yx.frame (h:yx w F B s) (k:∀b,F b->w'.heap[b]?=w.heap[b]?):yx w' F B s:=
 ⟨⟨h.ml.1,(k _ h.ml.1).trans h.ml.2⟩,⟨h.sb.1,h.sb.2.choose,(k _ h.sb.1).trans h.sb.2.choose_spec.1,h.sb.2.choose_spec.2⟩,λi hi=>⟨(h.r i hi).1.block λg hg=>k g ((h.r i hi).2 g hg),(h.r i hi).2⟩,λi hi=>(h.mv i hi).frame k,h.mpi,h.cvi,h.yu.keep (λb _ _ _ hb _=>k b hb) (λ_ h=>h) rfl rfl⟩
theorem yx.mono (h:yx w F B s) (k:∀b,F b->F' b):yx w F' B s:=
 ⟨⟨k _ h.ml.1,h.ml.2⟩,⟨k _ h.sb.1,h.sb.2⟩,λi hi=>⟨(h.r i hi).1,λb hb=>k b ((h.r i hi).2 b hb)⟩,λi hi=>(h.mv i hi).mono k,h.mpi,h.cvi,h.yu.keep (λ_ _ _ _ _ _=>rfl) k rfl rfl⟩
theorem yx.lts (h:yx w F B s):yx w (λb=>F b/\b<w.heap.size) B s:=
 ⟨⟨⟨h.ml.1,(zi h.ml.2).1⟩,h.ml.2⟩,⟨⟨h.sb.1,(zi h.sb.2.choose_spec.1).1⟩,h.sb.2⟩,λi hi=>⟨(h.r i hi).1,λb hb=>⟨(h.r i hi).2 b hb,(aj (h.r i hi).1.1 b hb).2⟩⟩,λi hi=>(h.mv i hi).lt,h.mpi,h.cvi,h.yu.lts⟩
theorem yx.below (h:yx w F B s) (hb:aA w.heap.size w w'):yx w' F B s:=(h.lts.frame λb gK=>hb.block b gK.2).mono λ_ h=>h.1
theorem yx.cells (h:yx w F B s) (j:Nat) (v:aa) (hj:(xI B s)[j]?=some v):w.cell? ⟨B.ml,j,none⟩=some v/\w.frozen? ⟨B.ml,j,none⟩=false:=⟨by simp[ag,h.ml.2,hj],by simp[aC,h.ml.2]⟩
theorem yx.sbc (h:yx w F B s) (hi:i<4):w.cell? ⟨B.sb,i*3,none⟩=some (.int .i64 (s.ow i))/\w.cell? ⟨B.sb,i*3+1,none⟩=some (B.lv i)/\w.cell? ⟨B.sb,i*3+2,none⟩=some (.pointer (mpA (B.mp i)))/\∀j,w.frozen? ⟨B.sb,j,none⟩=false:=by
 obtain⟨cur,h1,h2⟩:=h.sb.2;obtain⟨h3,h4,h5⟩:=h2 i hi;exact⟨by simp[ag,h1,h3],by simp[ag,h1,h4],by simp[ag,h1,h5],λj=>by simp[aC,h1]⟩
theorem yx.mdl (h:yx w F B s):Mdl w B.ml B.sb B.lv (λi=>mpA (B.mp i)) s.kv:=by
 obtain⟨cur,h1,h2⟩:=h.sb.2;exact⟨⟨B.cap,(h.cells 1 _ rfl).1⟩,⟨_,h.ml.2⟩,⟨cur,h1,λi hi=>⟨(h2 i hi).2.1,(h2 i hi).2.2,_,(h2 i hi).1⟩⟩,λi hi=>(h.r i hi).1⟩
theorem yx.store (h:yx w F B s) (hn:n<4) {v:aa} {X:KV} (hv:zy w 0 v X) (hF:∀b,v.ownBlock=some b->F b):yx (w.setCell ⟨B.sb,n*3+1,none⟩ v) F {B with lv:=qx B.lv n v} {s with kv:=mh s.kv n X}:=by
 obtain⟨cur,h1,h2⟩:=h.sb.2;have hs:=xhs w B.sb (n*3+1) cur 104 v h1;have ho:∀b,b≠B.sb->(w.setCell ⟨B.sb,n*3+1,none⟩ v).heap[b]?=w.heap[b]?:=λb hb=>xho w _ b v hb;have no:∀(b:Nat) (cur:Array aa) (ty:aI),w.heap[b]?=some (aF cur ty (0,0))->ty≠104->(w.setCell ⟨B.sb,n*3+1,none⟩ v).heap[b]?=w.heap[b]?:=λb c ty eZ n1=>ho b λe=>by
  rw[e,h1]at eZ;have e2:=xoi eZ;injection e2 with _ e3;exact n1 e3.symm
 have gY:∀{u:aa} {l:KV},zy w 0 u l->zy (w.setCell ⟨B.sb,n*3+1,none⟩ v) 0 u l:=λ{u l} hr=>hr.block λg hg=>by
  obtain⟨c,hc⟩:=hr.ty hg;exact no g c _ hc (by decide)
 refine⟨⟨h.ml.1,(no _ _ _ h.ml.2 (by decide)).trans h.ml.2⟩,⟨h.sb.1,_,hs,λi hi=>?_⟩,λi hi=>?_,λi hi=>((h.mv i hi).keep (λb c _ hb=>no b c _ hb (by decide)) (λb c _ hb=>no b c _ hb (by decide)) (λb c _ hb=>no b c _ hb (by decide))).same rfl rfl rfl,h.mpi,h.cvi,h.yu.keep (λb c ty hb _ ht=>no b c ty hb (by rcases ht with rfl|rfl<;>decide)) (λ_ h=>h) rfl rfl⟩
 ·obtain⟨h3,h4,h5⟩:=h2 i hi;have fC:i*3+1<cur.size:=(zi h4).1;refine⟨by rw[xne (by omega),h3],?_,by rw[xne (by omega),h5]⟩;show _=some (qx B.lv n v i);by_cases e:i=n
  ·subst e;rw[jc,xsl fC]
  ·rw[q9 _ _ e,xne (by omega),h4]
 ·show zy _ 0 (qx B.lv n v i) (mh s.kv n X i)/\∀b,(qx B.lv n v i).ownBlock=some b->F b;unfold mh;by_cases e:i=n
  ·subst e;rw[if_pos rfl,jc];exact⟨gY hv,hF⟩
  ·rw[if_neg e,q9 _ _ e];exact⟨gY (h.r i hi).1,(h.r i hi).2⟩
structure RX (x:Nat) (pv cv:aa) (m:Mv) (w:ac):Prop where
 b:w.heap[x]?=some (.cells (vv pv cv m) 110 (0,0))
 r:yT w cv m.cs
theorem RX.lt {pv cv:aa} {m:Mv} (h:RX x pv cv m w):x<w.heap.size:=(zi h.b).1
theorem RX.below {pv cv:aa} {m:Mv} (h:RX x pv cv m w) (hb:aA w.heap.size w w'):RX x pv cv m w':=⟨(hb.block _ h.lt).trans h.b,h.r.block λg hg=>hb.block g (aj h.r g hg).2⟩
theorem RX.cells {x:Nat} {pv cv:aa} {m:Mv} (h:RX x pv cv m w):w.cell? ⟨x,4,none⟩=some cv/\w.cell? ⟨x,9,none⟩=some (.bool m.sealed)/\w.frozen? ⟨x,4,none⟩=false:=⟨by simp[ag,h.b,vv],by simp[ag,h.b,vv],by simp[aC,h.b]⟩
theorem yx.rx (h:yx w F B s) (hn:n<4) {m:Mv} (hm:s.mv n=some m):∃x,B.mp n=some x/\RX x (B.pv n) (B.cv n) m w:=by
 have h0:=h.mv n hn;rw[hm]at h0;obtain⟨g,z1,z2,z3,z4,z5,z6,z7⟩:=h0;exact⟨g,z1,z3,z5⟩
theorem yx.app {m:Mv} {fJ:List Chg} {iA:aa} (h:yx w F B s) (hn:n<4) (oD:B.mp n=some x) (fq:s.mv n=some m) (hb:But (λq=>q=x\/(B.cv n).ownBlock=some q) w w')
  (h4:RX x (B.pv n) iA {m with cs:=fJ} w') (hc:∀b,iA.ownBlock=some b->(B.cv n).ownBlock=some b\/w.heap.size<=b):
  yx w' (λb=>F b\/w.heap.size<=b) {B with cv:=qx B.cv n iA} {s with mv:=qx s.mv n (some {m with cs:=fJ})}:=by
 have lt:∀{b:Nat} {o:Obj},w.heap[b]?=some o->b<w.heap.size:=λhb=>(zi hb).1;have h0:=h.mv n hn;rw[fq]at h0;obtain⟨g,z1,z2,z3,z4,z5,z6,z7⟩:=h0;rw[oD]at z1;cases z1;have EZ:∀b,(B.cv n).ownBlock=some b->∃cur,w.heap[b]?=some (aF cur 60 (0,0)):=λb hb=>jm z5 hb;have iK:∀(b:Nat) (cur:Array aa) (ty:aI),w.heap[b]?=some (aF cur ty (0,0))->ty≠110->ty≠60->w'.heap[b]?=w.heap[b]?:=λb cur ty eZ n1 n2=>hb.keep b (lt eZ) (by
  rintro(e|e)
  ·rw[e,z3]at eZ;have e2:=xoi eZ;injection e2 with _ e3;exact n1 e3.symm
  ·obtain⟨c,hc⟩:=EZ b e;rw[hc]at eZ;have e2:=xoi eZ;injection e2 with _ e3
   exact n2 e3.symm)
 obtain⟨cur,k1,k2⟩:=h.sb.2;refine⟨⟨.inl h.ml.1,(iK _ _ _ h.ml.2 (by decide) (by decide)).trans h.ml.2⟩,⟨.inl h.sb.1,cur,(iK _ _ _ k1 (by decide) (by decide)).trans k1,k2⟩,λi hi=>⟨(h.r i hi).1.block λq hq=>?_,λb hb=>.inl ((h.r i hi).2 b hb)⟩,λi hi=>?_,h.mpi,λi j q hi hj h1 h2=>?_,h.yu.keep (λb c ty hb _ ht=>iK b c ty hb (by rcases ht with rfl|rfl<;>decide) (by rcases ht with rfl|rfl<;>decide)) (λ_ h=>.inl h) rfl rfl⟩
 ·obtain⟨c,hc⟩:=(h.r i hi).1.ty hq;exact iK q c _ hc (by decide) (by decide)
 ·show nD w' _ _ i (qx s.mv n _ i);by_cases e:i=n
  ·subst e;rw[jc];refine⟨x,oD,.inl z2,?_,?_,?_,λb hb=>.inl (z6 b hb),λb hb=>?_⟩
   ·rw[h4.b];show _=some (aF (vv (B.pv i) (qx B.cv i iA i) _) _ _);rw[jc]
   ·exact z4.block λb hb=>by
     obtain⟨c,hc⟩:=jm z4 hb;exact iK b c _ hc (by decide) (by decide)
   ·show yT w' (qx B.cv i iA i) fJ;rw[jc];exact h4.r
   ·have hb:(qx B.cv i iA i).ownBlock=some b:=hb;rw[jc]at hb;exact(hc b hb).imp (z7 b) id
  ·rw[q9 _ _ e];have h1:nD w' (λb=>F b\/w.heap.size<=b) B i (s.mv i):=((h.mv i hi).keep (λb cur o eZ=>hb.keep b (lt eZ) (by
     rintro(e2|e2)
     ·exact e (h.mpi i n b hi hn o (by rw[oD,e2]))
     ·obtain⟨c,hc⟩:=EZ b e2;rw[hc]at eZ;have e3:=xoi eZ;injection e3 with _ e4;exact absurd e4 (by decide))) (λb cur o eZ=>iK b cur _ eZ (by decide) (by decide)) (λb cur o eZ=>hb.keep b (lt eZ) (by
     rintro(e2|e2)
     ·rw[e2,z3]at eZ;have e3:=xoi eZ;injection e3 with _ e4;exact absurd e4 (by decide)
     ·exact e (h.cvi i n b hi hn o e2)))).mono λb hb=>.inl hb
   exact h1.same rfl rfl (q9 _ _ e)
 ·replace h1:(qx B.cv n iA i).ownBlock=some q:=h1;replace h2:(qx B.cv n iA j).ownBlock=some q:=h2;have ltc:∀i,i<4->∀b,(B.cv i).ownBlock=some b->b<w.heap.size:=λi hi b hb=>by
   have h0:=h.mv i hi;cases ng:s.mv i with
   |none=>rw[ng]at h0;rw[h0.2]at hb;cases hb
   |some mi=>
    rw[ng]at h0;obtain⟨q,y1,y2,y3,y4,y5,y6,y7⟩:=h0;exact(aj y5 b hb).2
  by_cases e1:i=n
  ·by_cases e2:j=n
   ·omega
   ·subst e1;rw[jc]at h1;rw[q9 _ _ e2]at h2;rcases hc q h1 with h3|h3
    ·exact absurd (h.cvi i j q hn hj h3 h2) λe=>e2 e.symm
    ·have:=ltc j hj q h2;omega
  ·rw[q9 _ _ e1]at h1;by_cases e2:j=n
   ·subst e2;rw[jc]at h2;rcases hc q h2 with h3|h3
    ·exact absurd (h.cvi i j q hi hn h1 h3) e1
    ·have:=ltc i hi q h1;omega
   ·rw[q9 _ _ e2]at h2;exact h.cvi i j q hi hj h1 h2
theorem yx.LA (h:yx w F B s):B.sb<w.heap.size:=h.lts.sb.1.2
theorem yx.cvs {m:Mv} (h:yx w F B s) (hn:n<4) (hm:s.mv n=some m):(B.cv n).ownBlock≠some B.sb/\∀b,(B.cv n).ownBlock=some b->F b/\b<w.heap.size:=by
 have h0:=h.mv n hn;rw[hm]at h0;obtain⟨g,z1,z2,z3,z4,z5,z6,z7⟩:=h0;refine⟨λe=>?_,λb hb=>⟨z7 b hb,(aj z5 b hb).2⟩⟩;obtain⟨c,hc⟩:=jm z5 e;obtain⟨cur,k1,_⟩:=h.sb.2;rw[k1]at hc;have e2:=xoi hc;injection e2 with _ e3;exact absurd e3 (by decide)
theorem yx.mpG {m:Mv} (h:yx w F B s) (hn:n<4) (hm:s.mv n=some m) (hx:B.mp n=some x):F x:=by
 have h0:=h.mv n hn;rw[hm]at h0;obtain⟨g,z1,z2,_⟩:=h0;rw[hx]at z1;cases z1;exact z2
end
end Go.Proofs.YtkpekiajdlolnabGreat
namespace Go.Proofs
open Go.RowKit Go.Maps Go.Sort Go.Shelf
def Tryz.keysOf_ren:Go.Shelf.Ren:=⟨fun|7=>91|10=>124|n=>n,fun|23=>140|26=>9|3=>146|28=>173|0=>0|27=>172|33=>28|4=>4|n=>n,fun|n=>n⟩
theorem Tryz.keysOf:Go.Proofs.SlLaysZ.n7 prog Tryz.keysOf_ren:={
 mixed:=by kernel_rfl
 f7:=⟨Tryz.f91.name,by decide,func91.trans (congrArg some (by kernel_rfl))⟩
 f10:=⟨Tryz.f124.name,by decide,func124.trans (congrArg some (by kernel_rfl))⟩
 t0:=underlying0
 a0:=Tryz.isAgg0
 z0:=Tryz.sizeOf0
 v0:=Tryz.zeroValue0
 t4:=underlying4
 a4:=Tryz.isAgg4
 z4:=Tryz.sizeOf4
 v4:=Tryz.zeroValue4
 t23:=underlying140
 a23:=Tryz.isAgg140
 z23:=Tryz.sizeOf140
 v23:=Tryz.zeroValue140
 t26:=underlying9
 a26:=Tryz.isAgg9
 z26:=Tryz.sizeOf9
 v26:=Tryz.zeroValue9
 t27:=underlying172
 a27:=Tryz.isAgg172
 z27:=Tryz.sizeOf172
 v27:=Tryz.zeroValue172
 t28:=underlying173
 a28:=Tryz.isAgg173
 z28:=Tryz.sizeOf173
 v28:=Tryz.zeroValue173
 t33:=underlying28
 a33:=Tryz.isAgg28
 z33:=Tryz.sizeOf28
 v33:=Tryz.zeroValue28}
def Tryz.sortedOf_ren:Go.Shelf.Ren:=⟨fun|6=>90|8=>122|9=>123|11=>135|13=>137|12=>136|23=>151|24=>152|14=>142|15=>143|16=>144|17=>145|18=>146|19=>147|20=>148|21=>149|22=>150|25=>153|26=>154|27=>155|28=>156|29=>157|30=>158|31=>159|n=>n,fun|26=>9|28=>173|24=>33|0=>0|3=>3|37=>165|48=>120|50=>117|4=>4|40=>225|39=>224|45=>88|5=>5|9=>9|51=>233|55=>236|57=>238|58=>239|33=>28|n=>n,fun|n=>n⟩
theorem Tryz.sortedOf:Go.Proofs.SlLaysZ.n6 prog Tryz.sortedOf_ren:={
 mixed:=by kernel_rfl
 f6:=⟨Tryz.f90.name,by decide,func90.trans (congrArg some (by kernel_rfl))⟩
 f8:=⟨Tryz.f122.name,by decide,func122.trans (congrArg some (by kernel_rfl))⟩
 f11:=⟨Tryz.f135.name,by decide,func135.trans (congrArg some (by kernel_rfl))⟩
 t0:=underlying0
 a0:=Tryz.isAgg0
 z0:=Tryz.sizeOf0
 v0:=Tryz.zeroValue0
 t24:=underlying33
 a24:=Tryz.isAgg33
 z24:=Tryz.sizeOf33
 v24:=Tryz.zeroValue33
 t26:=underlying9
 a26:=Tryz.isAgg9
 z26:=Tryz.sizeOf9
 v26:=Tryz.zeroValue9
 t28:=underlying173
 a28:=Tryz.isAgg173
 z28:=Tryz.sizeOf173
 v28:=Tryz.zeroValue173
 i26:=by kernel_rfl}
def Tryz.sortOf_ren:Go.Shelf.Ren:=⟨fun|6=>123|8=>137|9=>136|19=>151|20=>152|21=>142|22=>143|23=>144|24=>145|25=>146|26=>147|27=>148|28=>149|29=>150|36=>153|31=>154|32=>155|37=>156|38=>157|39=>158|41=>159|n=>n,fun|27=>33|29=>9|3=>3|32=>165|26=>33|0=>0|44=>120|46=>117|4=>4|36=>225|35=>224|41=>88|5=>5|9=>9|53=>233|57=>236|63=>238|64=>239|n=>n,fun|n=>n⟩
theorem Tryz.sortOf:Go.Proofs.SlLaysM.n6 prog Tryz.sortOf_ren:={
 mixed:=by kernel_rfl
 f6:=⟨Tryz.f123.name,by decide,func123.trans (congrArg some (by kernel_rfl))⟩
 f8:=func137.trans (congrArg some (by kernel_rfl))
 f9:=⟨Tryz.f136.name,by decide,func136.trans (congrArg some (by kernel_rfl))⟩
 f19:=func151.trans (congrArg some (by kernel_rfl))
 f20:=func152.trans (congrArg some (by kernel_rfl))
 f21:=⟨Tryz.f142.name,by decide,func142.trans (congrArg some (by kernel_rfl))⟩
 f22:=⟨Tryz.f143.name,by decide,func143.trans (congrArg some (by kernel_rfl))⟩
 f23:=⟨Tryz.f144.name,by decide,func144.trans (congrArg some (by kernel_rfl))⟩
 f24:=⟨Tryz.f145.name,by decide,func145.trans (congrArg some (by kernel_rfl))⟩
 f25:=⟨Tryz.f146.name,by decide,func146.trans (congrArg some (by kernel_rfl))⟩
 f26:=⟨Tryz.f147.name,by decide,func147.trans (congrArg some (by kernel_rfl))⟩
 f27:=⟨Tryz.f148.name,by decide,func148.trans (congrArg some (by kernel_rfl))⟩
 f28:=⟨Tryz.f149.name,by decide,func149.trans (congrArg some (by kernel_rfl))⟩
 f29:=⟨Tryz.f150.name,by decide,func150.trans (congrArg some (by kernel_rfl))⟩
 f31:=func154.trans (congrArg some (by kernel_rfl))
 f32:=func155.trans (congrArg some (by kernel_rfl))
 f36:=⟨Tryz.f153.name,by decide,func153.trans (congrArg some (by kernel_rfl))⟩
 f37:=⟨Tryz.f156.name,by decide,func156.trans (congrArg some (by kernel_rfl))⟩
 f38:=⟨Tryz.f157.name,by decide,func157.trans (congrArg some (by kernel_rfl))⟩
 f39:=⟨Tryz.f158.name,by decide,func158.trans (congrArg some (by kernel_rfl))⟩
 f41:=⟨Tryz.f159.name,by decide,func159.trans (congrArg some (by kernel_rfl))⟩
 t0:=underlying0
 a0:=Tryz.isAgg0
 z0:=Tryz.sizeOf0
 v0:=Tryz.zeroValue0
 t3:=underlying3
 a3:=Tryz.isAgg3
 z3:=Tryz.sizeOf3
 v3:=Tryz.zeroValue3
 t4:=underlying4
 a4:=Tryz.isAgg4
 z4:=Tryz.sizeOf4
 v4:=Tryz.zeroValue4
 t5:=underlying5
 a5:=Tryz.isAgg5
 z5:=Tryz.sizeOf5
 v5:=Tryz.zeroValue5
 t9:=underlying9
 a9:=Tryz.isAgg9
 z9:=Tryz.sizeOf9
 v9:=Tryz.zeroValue9
 t26:=underlying33
 a26:=Tryz.isAgg33
 z26:=Tryz.sizeOf33
 v26:=Tryz.zeroValue33
 t27:=underlying33
 a27:=Tryz.isAgg33
 z27:=Tryz.sizeOf33
 v27:=Tryz.zeroValue33
 t29:=underlying9
 a29:=Tryz.isAgg9
 z29:=Tryz.sizeOf9
 v29:=Tryz.zeroValue9
 t32:=underlying165
 a32:=Tryz.isAgg165
 z32:=Tryz.sizeOf165
 v32:=Tryz.zeroValue165
 t35:=underlying224
 a35:=Tryz.isAgg224
 z35:=Tryz.sizeOf224
 v35:=Tryz.zeroValue224
 t36:=underlying225
 a36:=Tryz.isAgg225
 z36:=Tryz.sizeOf225
 v36:=Tryz.zeroValue225
 t41:=underlying88
 a41:=Tryz.isAgg88
 z41:=Tryz.sizeOf88
 v41:=Tryz.zeroValue88
 t44:=underlying120
 a44:=Tryz.isAgg120
 z44:=Tryz.sizeOf120
 v44:=Tryz.zeroValue120
 t46:=underlying117
 a46:=Tryz.isAgg117
 z46:=Tryz.sizeOf117
 v46:=Tryz.zeroValue117
 t53:=underlying233
 a53:=Tryz.isAgg233
 z53:=Tryz.sizeOf233
 v53:=Tryz.zeroValue233
 t57:=underlying236
 a57:=Tryz.isAgg236
 z57:=Tryz.sizeOf236
 v57:=Tryz.zeroValue236
 t63:=underlying238
 a63:=Tryz.isAgg238
 z63:=Tryz.sizeOf238
 v63:=Tryz.zeroValue238
 t64:=underlying239
 a64:=Tryz.isAgg239
 z64:=Tryz.sizeOf239
 v64:=Tryz.zeroValue239}
theorem Tryz.sorts_of (m:Nat):AnyZ.SortsIn prog Tryz.sortedOf_ren Fence.wide m:=
 ⟨λblk off cap ss W hH hblk fC=>callsIn_wide.2 (AnyM.slices_Sort_string Tryz.sortOf blk off cap ss W hH hblk fC),
  λp cap W=>callsIn_wide.2 (AnyM.slices_Sort_string_none Tryz.sortOf p cap W)⟩
theorem Tryz.maps_keys (mb:Option Nat) (W:ac):aB prog 91 #[.map mb] W λe w'=>e=.returned (.func (.func 124) #[] #[.pointer (some ⟨W.heap.size,0,none⟩)])/\w'=W.alloc (.cells #[.map mb] 140):=
 callsIn_wide.1 (AnyZ.keys_in Tryz.keysOf Fence.wide 5 trivial rfl mb W)
theorem Tryz.slices_sorted {H:Type} (b nn:Nat) (D0:bO H) (R:aa->Option (bO H×List bz)) (w:ac) (gH:w.ownsMap prog 9 R b nn D0) (Sn:Maps.size D0<=bm) (EW:Maps.size D0*16<=140737488355328):
  aB prog 90 #[.func (.func 124) #[] #[.pointer (some ⟨w.heap.size,0,none⟩)]] (w.alloc (.cells #[.map (some b)] 140)) λe w'=>∃(v:aa) (ss:List (List UInt8)),e=.returned v/\ss.Perm (strKeys D0)/\
   w'.ownsRow (w.alloc (.cells #[.map (some b)] 140)).heap.size 9 1 v ss.length ((ss.mergeSort (λx y=>decide (x<=y))).map encStr)/\(v=.slice none 0 0↔ss=[])/\aA (w.alloc (.cells #[.map (some b)] 140)).heap.size (w.alloc (.cells #[.map (some b)] 140)) w':=by
 refine(callsIn_wide (n:=5)).1 ?_;have gB:=gH.lt;have RU:SeqGives Fence.wide 2 prog 124 #[.pointer (some ⟨w.heap.size,0,none⟩)] encStr (λss=>ss.Perm (strKeys D0)) (Maps.size D0) (w.alloc (.cells #[.map (some b)] 140)):=
  AnyZ.keys_gives (ρ:=Tryz.keysOf_ren) {Tryz.keysOf with} Fence.wide _ trivial rfl (by omega) w.heap.size b nn D0 _ (by simp) (by simp) (by
   obtain⟨es,clock,hb,Ft,hs,hD⟩:=gH
   exact⟨es,clock,(Below.heap_alloc _ _ b gB).trans hb,Ft,hs,hD⟩)
 exact AnyZ.sorted_in Tryz.sortedOf Fence.wide 5 trivial trivial trivial trivial rfl (by omega) (Tryz.sorts_of _) (enters_of func123 (by kernel_rfl) rfl) 124 #[.pointer (some ⟨w.heap.size,0,none⟩)] trivial (enters_of func124 (by kernel_rfl) rfl) _ _ Sn EW _ RU
end Go.Proofs
namespace Go.Proofs.YtkpekiajdlolnabGreat
section
open Go.RowKit Go.Maps Go.Sort
theorem q8m (L:KV):strKeys (DM L)=L.map (·.1):=by
 show List.map _ (List.map _ L)=_;rw[List.map_map];rfl
theorem jgn (a b:Bs):cB a b=decide (a<b):=by rw[<-AJ,bytesLess_eq]
theorem qtv {L:KV} (h:jr L) {ss:List Bs} (hp:ss.Perm (L.map (·.1))):ss.mergeSort (λx y=>decide (x<=y))=L.map (·.1):=by
 rw[mergeSort_of_perm hp];refine List.mergeSort_of_pairwise ?_;rw[ce];refine List.Pairwise.imp ?_ h;intro a b iw;rw[jgn]at iw;exact xdt (List.le_of_lt (of_decide_eq_true iw))
theorem q26 {L:KV} (hm:zk w mb L) (s:ByteArray) (hs:s.size<=bm):(Instr.lookup 140 (.map (some mb)) (.string s) false).run prog w=.ok (.agg #[sv ((jh L s.data.toList).getD [])]) w:=by
 have gH:=hm;obtain⟨v,ps,fu,hv⟩:=gH.lookup (string_keyed underlying9) underlying140 (TT w) (zd:=ev []) (zp:=[]) rfl (Kc s hs);rw[Vw]at hv;have:Rv v=some (ev ((jh L s.data.toList).getD []),ps):=by
  rw[hv];cases jh L s.data.toList<;>rfl
 rw[fu,X6 this]
theorem V5 (pv:ByteArray) (w:ac):(Instr.field 146 (.agg #[.string pv]) 0).run prog w=.ok (.string pv) w:=by kernel_rfl
theorem jil {L:KV} (h:jr L) {p:Bs×Bs} (hp:L[j]?=some p):jh L p.1=some p.2:=by
 have uj:p∈L:=bA hp;clear hp;unfold jh;induction L with
 |nil=>cases uj
 |cons q L ih=>
  obtain⟨h1,h2⟩:=List.pairwise_cons.1 h;rw[List.find?_cons];rcases bG.1 uj with rfl|hm
  ·simp
  ·rw[J6 (h1 p hm)];exact ih h2 hm
def OE (w:ac) (L:KV) (e:cF) (w':ac):Prop:= ∃v,e=.returned v/\zy w' w.heap.size v L/\aA w.heap.size w w'
theorem O6 {L:KV} {p:Bs×Bs} (f:Bs×Bs->Bool) (hp:L[j]?=some p):(L.take (j+1)).filter f=(L.take j).filter f++(if f p then[p]else[]):=by
 obtain⟨hj,rfl⟩:=ax.1 hp;rw[List.take_succ_eq_append_getElem hj,List.filter_append,List.filter_cons,List.filter_nil]
section
variable {w:ac} {db mb:Nat} {L:KV}
structure PrW (W:ac) (db mb:Nat) (L:KV) (s t:Bs) (j:Nat) (out:aa) (w:ac):Prop where
 row:zy w W.heap.size out ((L.take j).filter (inB s t))
 below:aA W.heap.size W w
theorem PrW.app {W:ac} {s t:Bs} {out:aa} {p:Bs×Bs} (h:PrW W db mb L s t j out w) (hp:L[j]?=some p) (iU:inB s t p=true) {v':aa} (iq:aA W.heap.size W w1) (El:w1.ownsRow W.heap.size 74 2 out ((L.take j).filter (inB s t)).length (flat ((L.take j).filter (inB s t)))) (hg:w1.grownBy w2 out.ownBlock)
  (hr:w2.ownsRow W.heap.size 74 2 v' (((L.take j).filter (inB s t)).length+1) (flat ((L.take j).filter (inB s t))++[sv p.1,sv p.2])) (ha:kS w2 v'):PrW W db mb L s t (j+1) v' w2:=by
 refine⟨?_,vo iq hg El (ji _) iq.size⟩;rw[O6 _ hp,iU,if_pos rfl];exact AB hr ha (ji _) (by rw[Ib];rfl)
theorem PrW.skip {W:ac} {s t:Bs} {out:aa} {p:Bs×Bs} (h:PrW W db mb L s t j out w) (hp:L[j]?=some p) (iU:inB s t p=false):PrW W db mb L s t (j+1) out w:=by
 refine⟨?_,h.below⟩;rw[O6 _ hp,iU];simpa using h.row
theorem sorted_at (hm:zk w mb L) (iR:jr L) (hL:L.length<=12):
  aB prog 90 #[.func (.func 124) #[] #[.pointer (some ⟨w.heap.size,0,none⟩)]] (w.alloc (.cells #[.map (some mb)] 140)) λe w'=>
   ((L=[]/\e=.returned (.slice none 0 0))\/∃kb cap,L≠[]/\e=.returned (.slice (some ⟨kb,0,none⟩) L.length cap)/\∀j (p:Bs×Bs),L[j]?=some p->w'.cell? ⟨kb,j,none⟩=some (sv p.1))/\aA w.heap.size w w':=by
 refine(Tryz.slices_sorted mb L.length (DM L) Rv w hm (by rw[Kt];unfold bm;omega) (by rw[Kt];omega)).mono ?_;rintro e w' ⟨kv,ss,rfl,hp,hr,hn,hb⟩;have gK:aA w.heap.size w w':=((jg _ w).alloc (ji _) _).trans (hb.mono (by simp));rw[q8m]at hp;have hlen:ss.length=L.length:=by rw[hp.length_eq,bB]
 rw[qtv iR hp]at hr;refine⟨?_,gK⟩;by_cases he:L=[]
 ·have:ss=[]:=aO (by rw[hlen,he];rfl);exact .inl ⟨he,by rw[hn.2 this]⟩
 ·rcases hr.2 with⟨_,hz⟩|⟨kb,cap,cur,iF,_⟩
  ·exact absurd (aO (by omega)) he
  ·refine .inr ⟨kb,cap,he,by rw[iF,hlen],λj p hj=>?_⟩;have h1:((L.map (·.1)).map encStr)[j]?=some (sv p.1):=by rw[cj,cj,hj];rfl
   have h2:=hr.cells (g:=kb) (by rw[iF];rfl) _ _ h1;rwa [aq,aG]at h2
theorem qzw (hd:w.cell? ⟨db,0,none⟩=some (.map (some mb))) (hm:zk w mb []) (s t:ByteArray):
  aB prog 56 #[.pointer (some ⟨db,0,none⟩),.string s,.string t] w (OE w []):=by
 have HS:=Hd (sorted_at hm List.Pairwise.nil (by decide));clear hm;go_enter func56,ntmps56;go_wp2_with (first
  |(go_at_call 91;refine(Tryz.maps_keys _ _).mono ?_;rintro e w' ⟨rfl,rfl⟩)
  |(go_at_call 90;refine(HS.mono λe w' h=>(show(e=.returned (.slice none 0 0))/\aA w.heap.size w w' from⟨h.1.elim (·.2) (λ⟨_,_,h,_⟩=>(h rfl).elim),h.2⟩)).mono ?_;rintro e w2 ⟨rfl,gq⟩;have HB:=Hd gq;clear gq))
 refine aD 1 ?_;rw[ai];go_wp2;go_ret;exact⟨_,rfl,⟨aQ _ _ _ _,kS.nil _⟩,HB.o⟩
theorem qv4 (fA:L≠[]) (hd:w.cell? ⟨db,0,none⟩=some (.map (some mb))) (hm:zk w mb L) (iR:jr L) (hL:L.length<=12) (jV:∀p∈L,p.1.length<=bm) (s t:ByteArray):
  aB prog 56 #[.pointer (some ⟨db,0,none⟩),.string s,.string t] w (OE w (L.filter (inB s.data.toList t.data.toList))):=by
 have HS:=Hd (sorted_at hm iR hL);have HM:=Hd hm;have HR:=Hd iR;have HK:=Hd jV;have HN:=Hd fA;clear hm iR jV fA;go_enter func56,ntmps56;go_wp2_with (first
  |(go_at_call 91;refine(Tryz.maps_keys _ _).mono ?_;rintro e w' ⟨rfl,rfl⟩)
  |(go_at_call 90;refine(HS.mono λe w' h=>(show(∃kb cap,e=.returned (.slice (some ⟨kb,0,none⟩) L.length cap)/\∀j (p:Bs×Bs),L[j]?=some p->w'.cell? ⟨kb,j,none⟩=some (sv p.1))/\aA w.heap.size w w' from⟨h.1.elim (λh=>(HN.o h.1).elim) (λ⟨kb,cap,_,h⟩=>⟨kb,cap,h⟩),h.2⟩)).mono ?_;rintro e w2 ⟨⟨kb,cap,rfl,zR⟩,gq⟩;have HC:=Hd zR;have HB:=Hd gq;clear zR gq))
 go_loopw [7,17] (λout i wr=>∃j:Nat,j<=L.length/\i=.int .i64 j/\Hid (PrW w2 db mb L s.data.toList t.data.toList j out wr)) (λ_ i _=>L.length-(intOf i).toNat);case atStart=>exact⟨0,xzl _,rfl,Hd ⟨⟨aQ _ _ _ _,kS.nil _⟩,jg _ _⟩⟩
 case round=>
  obtain⟨j,hj,rfl,HP⟩:=hrel;have JE:Hid (((L.take j).filter (inB s.data.toList t.data.toList)).length+1<=1073741824):=by
   have h1:=bk (inB s.data.toList t.data.toList) (L.take j);rw[aL]at h1;show _<=_;omega
  by_cases kR:j<L.length
  ·obtain⟨p,hp⟩:∃p,L[j]?=some p:=⟨_,aX kR⟩
   have oV:=HC.o j p hp;have zR:=(HP.below.cell (xbl _ _ oV)).trans oV;have zT:aA w.heap.size w wr:=HB.trans (HP.below.mono HB.size);have hdr:=(zT.cell (xbl _ _ hd)).trans hd;have uj:p∈L:=bA hp;have rz:=q26 (HM.block (zT.block mb HM.lt)) ⟨p.1.toArray⟩ (by have:=HK.o p uj;simpa[ByteArray.size]using this);rw[show(⟨p.1.toArray⟩:ByteArray).data.toList=p.1 by simp,jil HR.o hp,Option.getD_some]at rz;have e1:ay (⟨p.1.toArray⟩:ByteArray).toList s.toList=cB p.1 s.data.toList:=by rw[AJ,al,al]
   have e2:ay (⟨p.1.toArray⟩:ByteArray).toList t.toList=cB p.1 t.data.toList:=by rw[AJ,al,al]
   have e3:t.toList.isEmpty=t.data.toList.isEmpty:=by rw[al]
   have nu:inB s.data.toList t.data.toList p=(!ay (⟨p.1.toArray⟩:ByteArray).toList s.toList&&(t.toList.isEmpty||ay (⟨p.1.toArray⟩:ByteArray).toList t.toList)):=by rw[e1,e2,e3];rfl
   clear oV zT uj e1 e2 e3;cases g1:ay (⟨p.1.toArray⟩:ByteArray).toList s.toList
   ·cases g2:t.toList.isEmpty
    ·cases g3:ay (⟨p.1.toArray⟩:ByteArray).toList t.toList
     ·have iU:inB s.data.toList t.data.toList p=false:=by rw[nu,g1,g2,g3];rfl
      clear nu;have vW:=Hd (HP.skip hp iU);unfold sv at zR rz;generalize (⟨p.1.toArray⟩:ByteArray)=pk at*;generalize (⟨p.2.toArray⟩:ByteArray)=pv at*;clear iU hp;go_wp2;go_roundw;case rel=>exact⟨j+1,by omega,rfl,vW.o⟩
      case measure=>simp[intOf];omega
     ·have iU:inB s.data.toList t.data.toList p=true:=by rw[nu,g1,g2,g3];rfl
      clear nu;have Aj:=Hd (λv' w1 w3=>HP.app (v':=v') (w1:=w1) (w2:=w3) hp iU);unfold sv at Aj zR rz;generalize (⟨p.1.toArray⟩:ByteArray)=pk at*;generalize (⟨p.2.toArray⟩:ByteArray)=pv at*;clear iU hp;have hfd:=V5 pv;go_wp2_with (at_builtin;refine zu (v:=u7) rfl (.tmp 33) (.tmp 43) rfl rfl rfl (HP.row.1.alloc _) (HP.row.2.alloc _) (Src.one wr pk pv _) JE.o (xlt HP.below.size (by simp)) ?_;intro v3 w3 fF qW jW;have Bt:=Hd (Aj.out v3 _ w3 (HP.below.alloc HP.below.size _) (HP.row.1.alloc _) jW fF qW);clear fF qW jW)
      go_roundw;case rel=>exact⟨j+1,by omega,rfl,Bt⟩
      case measure=>simp[intOf];omega
    ·have iU:inB s.data.toList t.data.toList p=true:=by rw[nu,g1,g2];rfl
     clear nu;have Aj:=Hd (λv' w1 w3=>HP.app (v':=v') (w1:=w1) (w2:=w3) hp iU);unfold sv at Aj zR rz;generalize (⟨p.1.toArray⟩:ByteArray)=pk at*;generalize (⟨p.2.toArray⟩:ByteArray)=pv at*;clear iU hp;have hfd:=V5 pv;go_wp2_with (at_builtin;refine zu (v:=u7) rfl (.tmp 33) (.tmp 43) rfl rfl rfl (HP.row.1.alloc _) (HP.row.2.alloc _) (Src.one wr pk pv _) JE.o (xlt HP.below.size (by simp)) ?_;intro v3 w3 fF qW jW;have Bt:=Hd (Aj.out v3 _ w3 (HP.below.alloc HP.below.size _) (HP.row.1.alloc _) jW fF qW);clear fF qW jW)
     go_roundw;case rel=>exact⟨j+1,by omega,rfl,Bt⟩
     case measure=>simp[intOf];omega
   ·have iU:inB s.data.toList t.data.toList p=false:=by rw[nu,g1];rfl
    clear nu;have vW:=Hd (HP.skip hp iU);unfold sv at zR rz;generalize (⟨p.1.toArray⟩:ByteArray)=pk at*;generalize (⟨p.2.toArray⟩:ByteArray)=pv at*;clear iU hp;go_wp2;go_roundw;case rel=>exact⟨j+1,by omega,rfl,vW.o⟩
    case measure=>simp[intOf];omega
  ·obtain rfl:j=L.length:=by omega
   have HE:=Hd HP.row;rw[cu]at HE;go_wp2;go_ret;exact⟨_,rfl,AB HE.1 HE.2 HB.size rfl,HB.trans (HP.below.mono HB.size)⟩
theorem UA (hd:w.cell? ⟨db,0,none⟩=some (.map (some mb))) (hm:zk w mb L) (iR:jr L) (hL:L.length<=12) (jV:∀p∈L,p.1.length<=bm) (s t:ByteArray):
  aB prog 56 #[.pointer (some ⟨db,0,none⟩),.string s,.string t] w (OE w (L.filter (inB s.data.toList t.data.toList))):=by
 by_cases fA:L=[]
 ·subst fA;exact qzw hd hm s t
 ·exact qv4 fA hd hm iR hL jV s t
end
end
section
open Go.RowKit Go.Maps
def cat (L:Nat->KV) (f:Bs×Bs->Bool):Nat->KV
 |0=>[]
 |i+1=>cat L f i++(L i).filter f
def jy (L:Nat->KV) (f:Bs×Bs->Bool) (most:Nat) (i j:Nat):KV:=(cat L f i++((L i).take j).filter f).take most
theorem O0 {L:Nat->KV} {f:Bs×Bs->Bool}:jy L f most i (L i).length=jy L f most (i+1) 0:=by
 unfold jy;rw[cu];simp[cat]
theorem xq {L:Nat->KV} {f:Bs×Bs->Bool} {p:Bs×Bs} (hp:(L i)[j]?=some p):
  jy L f most i (j+1)=if f p&&decide ((jy L f most i j).length<most)then jy L f most i j++[p]else jy L f most i j:=by
 unfold jy;rw[O6 f hp];cases hf:f p
 ·simp
 ·simp only[if_true,bq,decide_eq_true_eq];rw[<-List.append_assoc];generalize cat L f i++List.filter f (List.take j (L i))=X;split
  ·rename_i eH;rw[aL]at eH;rw[bh (by simp;omega),bh (by omega)]
  ·rename_i jK;rw[aL]at jK;rw[List.take_append_of_le_length (by omega)]
theorem X3 {L:Nat->KV} {f:Bs×Bs->Bool} (h:∀i,i<4->(L i).length<=12):∀i,i<=4->(cat L f i).length<=i*12
 |0,_=>by simp[cat]
 |i+1,hi=>by
  have:=X3 (f:=f) h i (by omega);have h2:=bk f (L i);have h3:=h i (by omega);simp only[cat,bV];omega
theorem qwl {L:Nat->KV} {f:Bs×Bs->Bool} (h:∀i,i<4->(L i).length<=12) (hi:i<4):(jy L f most i j).length<=48:=by
 unfold jy;have:=X3 (f:=f) h i (by omega);have h2:=bk f ((L i).take j);have h3:=h i hi;rw[aL]at h2;rw[aL,bV];omega
def qyw (w:ac) (l:KV) (e:cF) (w':ac):Prop:= ∃v,e=.returned (.tuple #[v,.int .i64 0])/\zy w' w.heap.size v l/\aA w.heap.size w w'
structure ScW (W:ac) (ml sb:Nat) (lv:Nat->aa) (mp:Nat->Option Addr) (L:Nat->KV) (f:Bs×Bs->Bool) (most i j:Nat) (out:aa) (w:ac):Prop where
 row:zy w W.heap.size out (jy L f most i j)
 below:aA W.heap.size W w
 mdl:Mdl w ml sb lv mp L
section
variable {w:ac} {ml sb:Nat} {lv:Nat->aa} {mp:Nat->Option Addr} {L:Nat->KV} {f:Bs×Bs->Bool} {most i j:Nat} {out:aa}
theorem ScW.alloc {W:ac} (h:ScW W ml sb lv mp L f most i j out w) (o:Obj):ScW W ml sb lv mp L f most i j out (w.alloc o):=
 ⟨⟨h.row.1.alloc o,h.row.2.alloc o⟩,h.below.alloc h.below.size o,h.mdl.below ((jg _ _).alloc (ji _) o)⟩
theorem ScW.next {W:ac} (h:ScW W ml sb lv mp L f most i (L i).length out w):ScW W ml sb lv mp L f most (i+1) 0 out w:=⟨O0▸h.row,h.below,h.mdl⟩
theorem ScW.skip {W:ac} (h:ScW W ml sb lv mp L f most i j out w) {p:Bs×Bs} (hp:(L i)[j]?=some p) (fP:(f p&&decide ((jy L f most i j).length<most))=false):ScW W ml sb lv mp L f most i (j+1) out w:=
 ⟨by rw[xq hp,fP];exact h.row,h.below,h.mdl⟩
theorem ScW.app {W:ac} (h:ScW W ml sb lv mp L f most i j out w) {p:Bs×Bs} (hp:(L i)[j]?=some p) (Af:(f p&&decide ((jy L f most i j).length<most))=true) {v':aa} (hg:w.grownBy w2 out.ownBlock)
  (Me:ml<W.heap.size) (hold:Mdl W ml sb lv mp L)
  (hr:w2.ownsRow W.heap.size 74 2 v' ((jy L f most i j).length+1) (flat (jy L f most i j)++[sv p.1,sv p.2])) (ha:kS w2 v'):ScW W ml sb lv mp L f most i (j+1) v' w2:=by
 have hb:=vo h.below hg h.row.1 (ji _) h.below.size;refine⟨?_,hb,hold.below hb⟩;rw[xq hp,Af,if_pos rfl];exact AB hr ha (ji _) (by rw[Ib];rfl)
theorem Src.Yh (w:ac) (o:Obj) (a b:ByteArray) (ty:aI):Src ((w.alloc o).alloc (.cells #[.string a,.string b] ty)) (some ⟨w.heap.size+1,0,none⟩) 1 [.string a,.string b]:=by
 have h:=Src.one (w.alloc o) a b ty;have e:(w.alloc o).heap.size=w.heap.size+1:=by simp
 rwa [e]at h
theorem VI {w:ac} {base:Nat} {v:aa} (h:w.ownsRow base 74 2 v n xs):∃sa cp,v=.slice sa n cp:=by
 rcases h.2 with⟨rfl,hz⟩|⟨g,cap,cur,rfl,_⟩
 ·exact⟨none,0,by rw[hz]⟩
 ·exact⟨_,_,rfl⟩
theorem q5k (s t:ByteArray) (m:Int) (hm:m<0):aB prog 28 #[.pointer (some ⟨ml,0,none⟩),.string s,.string t,.int .i64 m] w λe w'=>e=.returned (.tuple #[.slice none 0 0,.int .i64 7])/\w'=w:=by
 have g1:decide (m<0)=true:=xdt hm;go_enter func28,ntmps28;go_wp2;go_ret2;exact⟨rfl,rfl⟩
theorem qz9 (hm:Mdl w ml sb lv mp L) (hL:∀i,i<4->(L i).length<=12) (s t:ByteArray) (Dz:most<=9223372036854775807):
  aB prog 28 #[.pointer (some ⟨ml,0,none⟩),.string s,.string t,.int .i64 most] w (qyw w ((cat L (inB s.data.toList t.data.toList) 4).take most)):=by
 have g0:decide ((most:Int)<0)=false:=by simp
 obtain⟨cap,hs⟩:=hm.s;have HM:=Hd hm;have HL:=Hd hL;have HML:=Hd hm.lts.1;clear hm hL;obtain⟨f,hf⟩:∃f,inB s.data.toList t.data.toList=f:=⟨_,rfl⟩
 rw[hf];have HF:=Hd hf;clear hf;go_enter func28,ntmps28;go_wp2;go_loopw [10,22] (λout x wr=>∃i:Nat,i<=4/\x=.int .i64 i/\∃sa n cp,out=.slice sa n cp/\Hid (n=(jy L f most i 0).length/\ScW w ml sb lv mp L f most i 0 (.slice sa n cp) wr)) (λ_ x _=>4-(intOf x).toNat);case atStart=>exact⟨0,by omega,rfl,none,0,0,rfl,Hd ⟨by simp[jy,cat],⟨by simpa[jy,cat,zF]using aQ w w.heap.size 74 2,kS.nil _⟩,jg _ _,HM.o⟩⟩
 case round=>
  obtain⟨i,hi,rfl,sa,n,cp,rfl,HP⟩:=hrel;by_cases qL:i<4
  ·obtain⟨c1,c2,_⟩:=HP.2.mdl.cl qL;obtain⟨o,c0⟩:=HP.2.mdl.owner qL;rcases(HP.2.mdl.r i qL).1.2 with⟨BF,hz⟩|⟨g,gc,cur,hv,_⟩
   ·rw[BF]at c1;have HX:=Hd (λ(o:Obj)=>(show ScW w ml sb lv mp L f most i (L i).length (.slice sa n cp) _ from hz▸HP.2.alloc o).next);have l7:Hid (jy L f most i 0=jy L f most (i+1) 0):=by rw[<-O0,hz];rfl
    clear BF hz;go_wp2;refine aD 1 ?_;rw[ai];go_wp2;go_roundw;case rel=>exact⟨i+1,by omega,rfl,sa,n,cp,rfl,Hd ⟨by rw[<-l7.o];exact HP.1,HX.o _⟩⟩
    case measure=>simp[intOf];omega
   ·rw[hv]at c1;have HV:=Hd hv;have HLi:=HL.o i qL;clear hv;go_wp2;go_loopw [10,29] (λout x MR=>∃j:Nat,j<=(L i).length/\x=.int .i64 j/\∃sa n cp,out=.slice sa n cp/\Hid (n=(jy L f most i j).length/\ScW w ml sb lv mp L f most i j (.slice sa n cp) MR)) (λ_ x _=>(L i).length-(intOf x).toNat);case atStart=>exact⟨0,by omega,rfl,sa,n,cp,rfl,Hd ⟨HP.1,HP.2.alloc _⟩⟩
    case round=>
     obtain⟨j,hj,rfl,jC,n2,jH,rfl,l6⟩:=hrel;have JE:Hid ((jy L f most i j).length+1<=1073741824):=by
      have:=qwl (f:=f) (most:=most) (j:=j) HL.o qL;show _<=_;omega
     by_cases kR:j<(L i).length
     ·obtain⟨p,hp⟩:∃p,(L i)[j]?=some p:=⟨_,aX kR⟩
      obtain⟨q1,q2⟩:=flat_get (L i) j p hp;have d1:=(l6.2.mdl.r i qL).1.cells (g:=g) (by rw[HV.o];rfl) _ _ q1;have d2:=(l6.2.mdl.r i qL).1.cells (g:=g) (by rw[HV.o];rfl) _ _ q2;rw[aq,aG]at d1 d2;have uW:=Hd hp;obtain⟨pk,e1⟩:∃b:ByteArray,b.data.toList=p.1:=⟨⟨p.1.toArray⟩,by simp⟩
      obtain⟨pv,e2⟩:∃b:ByteArray,b.data.toList=p.2:=⟨⟨p.2.toArray⟩,by simp⟩
      rw[qw e1]at d1;rw[qw e2]at d2;have LP:=Hd (aN e1 e2);have nu:f p=(!ay pk.toList s.toList&&(t.toList.isEmpty||ay pk.toList t.toList)):=by
       rw[<-HF.o,AJ,AJ,al,al,al,e1];rfl
      clear q1 q2 hp e1 e2;cases g1:ay pk.toList s.toList
      ·by_cases eH:n2<most
       ·have g4:decide ((n2:Int)<(most:Int))=true:=by simp;omega
        cases g2:t.toList.isEmpty
        ·cases g3:ay pk.toList t.toList
         ·have oQ:f p=false:=by rw[nu,g1,g2,g3];rfl
          clear nu;have fP:(f p&&decide ((jy L f most i j).length<most))=false:=by rw[oQ];rfl
          have vW:=Hd (λo=>(l6.2.alloc o).skip uW.o fP);have oW:=Hd (xq (most:=most) (f:=f) uW.o);rw[fP]at oW;clear fP oQ;go_wp2;go_roundw;case rel=>exact⟨j+1,by omega,rfl,jC,n2,jH,rfl,Hd ⟨by rw[oW.o];exact l6.1,vW.o _⟩⟩
          case measure=>simp[intOf];omega
         ·have oQ:f p=true:=by rw[nu,g1,g2,g3];rfl
          clear nu;have Af:(f p&&decide ((jy L f most i j).length<most))=true:=by simp only[oQ,bq];exact xdt (by rw[<-l6.1];exact eH)
          have Aj:=Hd (λ(v':aa) (w1 w2:ac) (h:ScW w ml sb lv mp L f most i j (.slice jC n2 jH) w1)=>h.app (v':=v') (w2:=w2) uW.o Af);have oW:=Hd (xq (most:=most) (f:=f) uW.o);rw[Af]at oW;have Jv:=Hd (aN (qw LP.out.1) (qw LP.out.2));clear Af oQ;go_wp2_with (at_builtin;refine zu (v:=.slice jC n2 jH) rfl (.tmp 53) (.tmp 55) rfl rfl rfl ((l6.2.alloc _).row.1.alloc _) ((l6.2.alloc _).row.2.alloc _) (Src.Yh _ _ pk pv _) JE.o (xlt l6.2.below.size (by simp;omega)) ?_;intro v3 w3 fF qW jW;obtain⟨mQ,ni,nG⟩:=VI fF;have Bt:=Hd (Aj.out v3 _ w3 ((l6.2.alloc _).alloc _) jW HML.o HM.o (by rw[Jv.1,Jv.2];exact fF) qW);rw[nG]at Bt;rw[nG];clear fF qW jW nG)
          go_roundw;case rel=>exact⟨_,_,_,⟨j+1,by omega,rfl,mQ,_,ni,rfl,Hd ⟨by rw[oW.o];simp,Bt.o⟩⟩,rfl,rfl,rfl⟩
          case measure=>simp[intOf];omega
        ·have oQ:f p=true:=by rw[nu,g1,g2];rfl
         clear nu;have Af:(f p&&decide ((jy L f most i j).length<most))=true:=by simp only[oQ,bq];exact xdt (by rw[<-l6.1];exact eH)
         have Aj:=Hd (λ(v':aa) (w1 w2:ac) (h:ScW w ml sb lv mp L f most i j (.slice jC n2 jH) w1)=>h.app (v':=v') (w2:=w2) uW.o Af);have oW:=Hd (xq (most:=most) (f:=f) uW.o);rw[Af]at oW;have Jv:=Hd (aN (qw LP.out.1) (qw LP.out.2));clear Af oQ;go_wp2_with (at_builtin;refine zu (v:=.slice jC n2 jH) rfl (.tmp 53) (.tmp 55) rfl rfl rfl ((l6.2.alloc _).row.1.alloc _) ((l6.2.alloc _).row.2.alloc _) (Src.Yh _ _ pk pv _) JE.o (xlt l6.2.below.size (by simp;omega)) ?_;intro v3 w3 fF qW jW;obtain⟨mQ,ni,nG⟩:=VI fF;have Bt:=Hd (Aj.out v3 _ w3 ((l6.2.alloc _).alloc _) jW HML.o HM.o (by rw[Jv.1,Jv.2];exact fF) qW);rw[nG]at Bt;rw[nG];clear fF qW jW nG)
         go_roundw;case rel=>exact⟨_,_,_,⟨j+1,by omega,rfl,mQ,_,ni,rfl,Hd ⟨by rw[oW.o];simp,Bt.o⟩⟩,rfl,rfl,rfl⟩
         case measure=>simp[intOf];omega
       ·have g4:decide ((n2:Int)<(most:Int))=false:=by simp;omega
        cases g2:t.toList.isEmpty
        ·cases g3:ay pk.toList t.toList
         ·have oQ:f p=false:=by rw[nu,g1,g2,g3];rfl
          clear nu;have fP:(f p&&decide ((jy L f most i j).length<most))=false:=by rw[oQ];rfl
          have vW:=Hd (λo=>(l6.2.alloc o).skip uW.o fP);have oW:=Hd (xq (most:=most) (f:=f) uW.o);rw[fP]at oW;clear fP oQ;go_wp2;go_roundw;case rel=>exact⟨j+1,by omega,rfl,jC,n2,jH,rfl,Hd ⟨by rw[oW.o];exact l6.1,vW.o _⟩⟩
          case measure=>simp[intOf];omega
         ·have oQ:f p=true:=by rw[nu,g1,g2,g3];rfl
          clear nu;have fP:(f p&&decide ((jy L f most i j).length<most))=false:=by simp only[oQ,bq];exact xdf (by rw[<-l6.1];exact eH)
          have vW:=Hd (λo=>(l6.2.alloc o).skip uW.o fP);have oW:=Hd (xq (most:=most) (f:=f) uW.o);rw[fP]at oW;clear fP oQ;go_wp2;go_roundw;case rel=>exact⟨j+1,by omega,rfl,jC,n2,jH,rfl,Hd ⟨by rw[oW.o];exact l6.1,vW.o _⟩⟩
          case measure=>simp[intOf];omega
        ·have oQ:f p=true:=by rw[nu,g1,g2];rfl
         clear nu;have fP:(f p&&decide ((jy L f most i j).length<most))=false:=by simp only[oQ,bq];exact xdf (by rw[<-l6.1];exact eH)
         have vW:=Hd (λo=>(l6.2.alloc o).skip uW.o fP);have oW:=Hd (xq (most:=most) (f:=f) uW.o);rw[fP]at oW;clear fP oQ;go_wp2;go_roundw;case rel=>exact⟨j+1,by omega,rfl,jC,n2,jH,rfl,Hd ⟨by rw[oW.o];exact l6.1,vW.o _⟩⟩
         case measure=>simp[intOf];omega
      ·have oQ:f p=false:=by rw[nu,g1];rfl
       clear nu;have fP:(f p&&decide ((jy L f most i j).length<most))=false:=by rw[oQ];rfl
       have vW:=Hd (λo=>(l6.2.alloc o).skip uW.o fP);have oW:=Hd (xq (most:=most) (f:=f) uW.o);rw[fP]at oW;clear fP oQ;go_wp2;go_roundw;case rel=>exact⟨j+1,by omega,rfl,jC,n2,jH,rfl,Hd ⟨by rw[oW.o];exact l6.1,vW.o _⟩⟩
       case measure=>simp[intOf];omega
     ·obtain rfl:j=(L i).length:=by omega
      have l7:Hid (jy L f most i (L i).length=jy L f most (i+1) 0):=Hd O0;have HX:=Hd l6.2.next;go_wp2;go_roundw;case rel=>exact⟨i+1,by omega,rfl,jC,n2,jH,rfl,Hd ⟨by rw[<-l7.o];exact l6.1,HX.o⟩⟩
      case measure=>simp[intOf];omega
  ·obtain rfl:i=4:=by omega
   have HE:=Hd HP.2;go_wp2;go_ret2;exact⟨_,rfl,by simpa[jy]using HE.row,HE.below⟩
end
end
end Go.Proofs.YtkpekiajdlolnabGreat
