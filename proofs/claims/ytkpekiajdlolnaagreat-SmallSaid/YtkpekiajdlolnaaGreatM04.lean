/- PROVED: part 4 of the claim's ground. Conditions: those that each theorem names. -/
import Derived.Test.YtkpekiajdlolnaaGreatM03
import Derived.Deep.RegionHeld3
import Derived.Deep.RegionWith
import Derived.Test.YtkpekiajdlolnaaGreatRows
import Derived.ProofKit
import Derived.OpenShut
import Derived.Carry
import Derived.Conc.Holds
import Derived.ChangeArms
import Derived.Laws.BitsAllLaws
import Derived.Lib.Hide
import Derived.Laws.IdiomStrings
import Derived.Maps.AppendAt
import Derived.Maps.Views
import Derived.Maps.RangeWalk
import Derived.DeepKeys5
import Derived.Deep.AppendSrc
import Derived.Deep.Upon
import Derived.Deep.AppendLies
import Derived.Deep.RegionLaw
set_option linter.unusedVariables false
set_option linter.unusedSimpArgs false
set_option maxRecDepth 100000
set_option maxHeartbeats 16000000
variable{A B:Prop} {C N a b cb cl db h i j m mb n nn:Nat} {g lg:Bool} {k pb s sb vb zu:ByteArray} {l:List UInt8} {o:Go.Obj} {w w' w1 w2:Go.World} {xs:List Go.Value}
open Go.Proofs.Tryz
open Go renaming World→aa,Value→ac,Calls→ax,TypeId→ay,maxLen→az,heap_alloc_new→aC,wpList_append_own→aF,bytesBefore→aH,wp_region_still_tail→aU,bodyPost_ret→bE,Ending→bG,ofInt_u64→bI,wpStill_nil→bL,MemPlace→bP
open Option renaming bind_some→ae,bind_none→aR,map_eq_some_iff→bh
open Go.World renaming cell?→ag,frozen?→aw,ownsRow_nil→aZ
open And renaming intro→ah
open List renaming getElem?_eq_some_iff→ai,length_append→aj,drop_eq_getElem_cons→am,take_of_length_le→aE,getElem?_eq_getElem→aK,getElem?_drop→aM,length_cons→aP,length_drop→aQ,take_succ_cons→aW,drop_succ_cons→aX,length_take→bd,append_nil→bi,take_append_drop→bj,getElem?_eq_none→bk,take_zero→bm,drop_zero→bo,mem_range→br,mem_of_getElem?→bu,append_assoc→bB,length_nil→bN,range→bR,map_cons→cf,map_nil→co
open ByteArray renaming getElem_eq_getElem_data→ao,data_append→aO
open Go.RowKit renaming Below→aq
open Nat renaming mod_two_eq_zero_or_one→au,pow_succ→aD,mul_le_mul_right→aG,xor_lt_two_pow→aL,zero_add→aN,pow_le_pow_right→aV,not_le→bQ,lt_or_ge→cq
open Go.ByteArray renaming toList_eq→aA
open Go.Addr renaming add_lit→aI
open Bool renaming and_eq_true→aJ,not_eq_true'→bD,and_false→bY
open Prod.mk renaming injEq→aS
open Option.some renaming injEq→aY
open BitVec renaming ofInt→bg
namespace Go.Proofs.YtkpekiajdlolnaaGreat
open Go.RowKit Go.Maps
theorem TR (c:Nat):shd c=if c<104 then 0 else if c<110 then 1 else if c<117 then 2 else 3:=by
 unfold shd;by_cases h1:c<=103
 ·rw[if_pos h1,if_pos (show c<104 by omega)]
 ·rw[if_neg h1,if_neg (show¬c<104 by omega)];by_cases h2:c<=109
  ·rw[if_pos h2,if_pos (show c<110 by omega)]
  ·rw[if_neg h2,if_neg (show¬c<110 by omega)];by_cases h3:c<=116
   ·rw[if_pos h3,if_pos (show c<117 by omega)]
   ·rw[if_neg h3,if_neg (show¬c<117 by omega)]
section
variable {w:aa}
end
structure qN (w:aa) (cl n:Nat) (db mb:Nat) (mv:Option Addr) (L:KV):Prop where
 d:w.cell? ⟨cl,1+n*3+1,none⟩=some (.pointer (some ⟨db,0,none⟩))
 v:w.cell? ⟨cl,1+n*3+2,none⟩=some (.pointer mv)
 m:w.cell? ⟨db,0,none⟩=some (.map (some mb))
 l:jh w mb L
theorem qN.block {mv:Option Addr} {L:KV} (h:qN w cl n db mb mv L) (k:∀b,b=cl\/b=db\/b=mb->w'.heap[b]?=w.heap[b]?):qN w' cl n db mb mv L:=
 ⟨(xcb (k _ (.inl rfl))).trans h.d,(xcb (k _ (.inl rfl))).trans h.v,(xcb (k _ (.inr (.inl rfl)))).trans h.m,h.l.block (k _ (.inr (.inr rfl)))⟩
theorem qN.lt {mv:Option Addr} {L:KV} (h:qN w cl n db mb mv L):cl<w.heap.size/\db<w.heap.size/\mb<w.heap.size:=
 ⟨xbl w _ h.d,xbl w _ h.m,h.l.lt⟩
theorem qN.below {mv:Option Addr} {L:KV} (h:qN w cl n db mb mv L) (k:aq w.heap.size w w'):qN w' cl n db mb mv L:=
 h.block λb hb=>k.block b (by have:=h.lt;rcases hb with rfl|rfl|rfl<;>omega)
def UM (x:Int) (w:aa) (e:bG) (w':aa):Prop:=e=.returned (.int .i64 x)/\aq w.heap.size w w'
section
variable {w:aa} {cl db mb:Nat} {L:KV}
theorem Zi (k v:ByteArray) (g:Bool) (h:iL k.data.toList=false) (hs:k.size<=az):ax prog 50 #[.pointer (some ⟨cl,0,none⟩),.agg #[.string k,.string v,.bool g]] w (UM 2 w):=by
 go_enter func50,ntmps50;go_wp2_with (go_at_call 51;refine(L9 _ _ h hs).mono ?_;rintro e w1 ⟨rfl,hb⟩)
 go_ret;exact⟨rfl,((j5 _ _).alloc (jd _) _).trans (hb.mono (by simp))⟩
structure ChW (cb cl n db mb:Nat) (mv:Option Addr) (L:KV) (k v:ByteArray) (g:Bool) (w:aa):Prop where
 c0:w.cell? ⟨cb,0,none⟩=some (.string k)
 c1:w.cell? ⟨cb,1,none⟩=some (.string v)
 c2:w.cell? ⟨cb,2,none⟩=some (.bool g)
 d:w.cell? ⟨cl,1+n*3+1,none⟩=some (.pointer (some ⟨db,0,none⟩))
 v:w.cell? ⟨cl,1+n*3+2,none⟩=some (.pointer mv)
 m:w.cell? ⟨db,0,none⟩=some (.map (some mb))
 l:jh w mb L
theorem ChW.of {mv:Option Addr} {v:ByteArray} (hp:qN w cl n db mb mv L) (hb:aq (w.alloc (.cells #[.string k,.string v,.bool g] 109)).heap.size (w.alloc (.cells #[.string k,.string v,.bool g] 109)) w1):
  ChW w.heap.size cl n db mb mv L k v g w1/\aq w.heap.size w w1:=by
 have nG:aq w.heap.size w w1:=((j5 _ _).alloc (jd _) _).trans (hb.mono (by simp));obtain⟨pd,pv,pm,pl⟩:=hp.below nG;exact⟨⟨(hb.cell (p:=⟨w.heap.size,0,none⟩) (by simp)).trans (by go_simp),(hb.cell (p:=⟨w.heap.size,1,none⟩) (by simp)).trans (by go_simp),(hb.cell (p:=⟨w.heap.size,2,none⟩) (by simp)).trans (by go_simp),pd,pv,pm,pl⟩,nG⟩
theorem ChW.below {mv:Option Addr} {v:ByteArray} (h:ChW cb cl n db mb mv L k v g w) (hb:aq w.heap.size w w1):ChW cb cl n db mb mv L k v g w1:=
 ⟨(hb.cell (xbl w _ h.c0)).trans h.c0,(hb.cell (xbl w _ h.c1)).trans h.c1,(hb.cell (xbl w _ h.c2)).trans h.c2,(hb.cell (xbl w _ h.d)).trans h.d,(hb.cell (xbl w _ h.v)).trans h.v,(hb.cell (xbl w _ h.m)).trans h.m,h.l.block (hb.block _ h.l.lt)⟩
theorem ChW.but {mv:Option Addr} {v:ByteArray} {L':KV} (h:ChW cb cl n db mb mv L k v g w) (hb:But (· =mb) w w1) (hm:jh w1 mb L'):ChW cb cl n db mb mv L' k v g w1:=by
 have ne:∀{b o:Nat} {x:ac},w.cell? ⟨b,o,none⟩=some x->b≠mb:=λ{b o x} hx e=>by
  obtain⟨es,ck,hb,_⟩:=h.l;subst e;unfold ag at hx;rw[hb]at hx;cases hx
 have cell:∀{b o:Nat} {x:ac},w.cell? ⟨b,o,none⟩=some x->w1.cell? ⟨b,o,none⟩=some x:=λhx=>(xcb (hb.keep _ (xbl w _ hx) (ne hx))).trans hx;exact⟨cell h.c0,cell h.c1,cell h.c2,cell h.d,cell h.v,cell h.m,hm⟩
theorem ChW.drew {mv:Option Addr} {v:ByteArray} (h:ChW cb cl n db mb mv L k v g w):ChW cb cl n db mb mv L k v g w.drew:=h.below (w1:=w.drew) ⟨rfl,rfl,rfl,jd _,λ_ _=>rfl⟩
theorem Gn {w:aa} {db mb:Nat} {L:KV} (hd:w.cell? ⟨db,0,none⟩=some (.map (some mb))) (hm:jh w mb L):ax prog 88 #[.pointer (some ⟨db,0,none⟩)] w λe w'=>e=.returned (.int .i64 L.length)/\w=w':=
 (jeg hd hm).mono λ_ _ h=>⟨h.1,h.2.symm⟩
def q79 (w:aa) (mb:Nat) (L:KV) (c:Int) (e:bG) (w':aa):Prop:=e=.returned (.int .i64 c)/\jh w' mb L/\But (· =mb) w w'
theorem Xj {mv:Option Addr} {W:aa} {v:ByteArray} (h:A/\B/\Hid (ChW W.heap.size cl n db mb mv L k v g w1/\aq W.heap.size W w1)) (hk:k.size<=az):
  ax prog 52 #[.pointer (some ⟨db,0,none⟩),.string k] w1 λe w'=>(e=.returned (.tuple #[sv ((qz L k.data.toList).getD []),.bool (qz L k.data.toList).isSome]))/\ChW W.heap.size cl n db mb mv L k v g w'/\aq W.heap.size W w':=
 (JM h.2.2.out.1.m h.2.2.out.1.l k hk).mono λe w' ⟨h1,h2⟩=>⟨h1,h.2.2.out.1.below h2,h.2.2.out.2.trans (h2.mono h.2.2.out.2.size)⟩
def nN (L:KV) (k v:Bs) (g:Bool):Int:=if 12<v.length then 3 else if !g&&!(qz L k).isSome&&L.length==12 then 4 else if g&&!(qz L k).isSome then 6 else 0
def chL (L:KV) (k v:Bs) (g:Bool):KV:=if nN L k v g=0 then(if g then xu L k else kG L k v)else L
theorem Qa {L:KV} {k v:Bs} (h:12<v.length):nN L k v g=3/\chL L k v g=L:=by
 have:nN L k v g=3:=by unfold nN;rw[if_pos h]
 exact⟨this,by unfold chL;rw[this];rfl⟩
theorem J3 {L:KV} {k v:Bs} (h:¬12<v.length):
  (g=false->(qz L k).isSome=false->L.length=12->nN L k v g=4/\chL L k v g=L)/\(g=false->((qz L k).isSome=true\/L.length≠12)->nN L k v g=0/\chL L k v g=kG L k v)/\
  (g=true->(qz L k).isSome=false->nN L k v g=6/\chL L k v g=L)/\(g=true->(qz L k).isSome=true->nN L k v g=0/\chL L k v g=xu L k):=by
 unfold chL nN;rw[if_neg h];refine⟨λh1 h2 h3=>?_,λh1 h2=>?_,λh1 h2=>?_,λh1 h2=>?_⟩
 ·subst h1;simp[h2,h3]
 ·subst h1;rcases h2 with h2|h2<;>simp[h2]
 ·subst h1;simp[h2]
 ·subst h1;simp[h2]
theorem Zh (k v:ByteArray) (g:Bool) (n:Nat) (hn:n<4) (hk:iL k.data.toList=true) (kU:q9 k.data.toList=n) (iD:k.size<=az) (hL:L.length<=12) (hp:qN w cl n db mb none L):
  ax prog 50 #[.pointer (some ⟨cl,0,none⟩),.agg #[.string k,.string v,.bool g]] w (q79 w mb (chL L k.data.toList v.data.toList g) (nN L k.data.toList v.data.toList g)):=by
 have Bc:((n:Int)<4):=by omega
 go_enter func50,ntmps50;go_wp2_with (go_at_call 51;refine(Ee _ _ hk).mono ?_;rintro e w1 ⟨rfl,hb⟩;rw[kU])
 obtain⟨jA,nG⟩:=ChW.of hp hb;clear hb hp;have FL:=Hd nG;have oU:=Hd jA;obtain⟨c0,c1,c2,pd,pv,pm,pl⟩:=id jA;clear nG jA pl;go_region_held3 (λw'=>w'.cell? ⟨cl,1+n*3+1,none⟩=some (.pointer (some ⟨db,0,none⟩))/\w'.cell? ⟨w.heap.size,0,none⟩=some (.string k)/\Hid (ChW w.heap.size cl n db mb none L k v g w'/\aq w.heap.size w w'))
  (first|exact⟨pd,c0,Hd ⟨oU.drew,FL.drew⟩⟩|exact⟨(iG.1).d,(iG.1).c0,iG⟩)
  (first|(go_at_call 52;refine(Xj (by assumption) iD).mono ?_;rintro e w2 ⟨rfl,lm⟩;have iG:=Hd lm;clear lm))
 obtain⟨has,jQ⟩:∃b,(qz L k.data.toList).isSome=b:=⟨_,rfl⟩
 rw[jQ];have HF:=Hd jQ;clear jQ;generalize sv ((qz L k.data.toList).getD [])=gv;obtain⟨e0,e1,e2,ed,ev,em,el⟩:=iG.1;have EL:=Hd el;have gZ:=Hd (But.of_below (B:=(· =mb)) iG.2);clear el;by_cases jR:12<v.size
 ·have HE:=Hd (Qa (L:=L) (k:=k.data.toList) (g:=g) (v:=v.data.toList) (by simpa using jR));have g1:decide ((12:Int)<v.size)=true:=by simp;omega
  go_wp2;go_ret;exact⟨by rw[HE.1];rfl,by rw[HE.2];exact EL.o,gZ.o⟩
 have HG:=Hd (J3 (L:=L) (k:=k.data.toList) (g:=g) (v:=v.data.toList) (by simpa using jR));rw[HF.o]at HG;have g1:decide ((12:Int)<v.size)=false:=by simp;omega
 cases g
 ·cases has
  ·by_cases oI:L.length=12
   ·have HE:=Hd (HG.1 rfl rfl oI);go_wp2_with (go_at_call 88;refine(Gn em EL.o).mono ?_;rintro e w' ⟨rfl,rfl⟩)
    go_ret;exact⟨by rw[HE.1];rfl,by rw[HE.2];exact EL.o,gZ.o⟩
   ·have HE:=Hd (HG.2.1 rfl (.inr oI));go_wp2_with (go_at_call 88;refine(Gn em EL.o).mono ?_;rintro e w' ⟨rfl,rfl⟩)
    refine aU 5 (by kernel_rfl) (by kernel_rfl) ?_;change wpStill _ _ w2.drew (λa'=>wpList _ _ _ _ a' w2.drew) _ _;simp only[aW,bm,aX,bo];repeat still_step
    refine bL ?_;go_wp2_with (go_at_call 67;refine(Ef (w:=w2.drew) em (EL.block rfl) (by omega) k v iD).mono ?_;rintro e w3 ⟨rfl,nQ,fM⟩;have lD:=Hd (iG.1.drew.but fM nQ);have jL:=Hd (gZ.drew.trans fM);obtain⟨f0,f1,f2,fd,fv,fm,fl⟩:=lD.o;clear fl nQ fM)
    go_ret;exact⟨by rw[HE.1];rfl,by rw[HE.2];exact lD.l,jL.o⟩
  ·have HE:=Hd (HG.2.1 rfl (.inl rfl));go_wp2;refine aU 5 (by kernel_rfl) (by kernel_rfl) ?_;change wpStill _ _ w2.drew (λa'=>wpList _ _ _ _ a' w2.drew) _ _;simp only[aW,bm,aX,bo];repeat still_step
   refine bL ?_;go_wp2_with (go_at_call 67;refine(Ef (w:=w2.drew) em (EL.block rfl) (by omega) k v iD).mono ?_;rintro e w3 ⟨rfl,nQ,fM⟩;have lD:=Hd (iG.1.drew.but fM nQ);have jL:=Hd (gZ.drew.trans fM);obtain⟨f0,f1,f2,fd,fv,fm,fl⟩:=lD.o;clear fl nQ fM)
   go_ret;exact⟨by rw[HE.1];rfl,by rw[HE.2];exact lD.l,jL.o⟩
 ·cases has
  ·have HE:=Hd (HG.2.2.1 rfl rfl);go_wp2;go_ret;exact⟨by rw[HE.1];rfl,by rw[HE.2];exact EL.o,gZ.o⟩
  ·have HE:=Hd (HG.2.2.2 rfl rfl);go_wp2;refine aU 5 (by kernel_rfl) (by kernel_rfl) ?_;change wpStill _ _ w2.drew (λa'=>wpList _ _ _ _ a' w2.drew) _ _;simp only[aW,bm,aX,bo];repeat still_step
   refine bL ?_;go_wp2_with (go_at_call 67;refine(JZ (w:=w2.drew) em (EL.block rfl) k v iD).mono ?_;rintro e w3 ⟨rfl,nQ,fM⟩;have lD:=Hd (iG.1.drew.but fM nQ);have jL:=Hd (gZ.drew.trans fM);obtain⟨f0,f1,f2,fd,fv,fm,fl⟩:=lD.o;clear fl nQ fM)
   go_ret;exact⟨by rw[HE.1];rfl,by rw[HE.2];exact lD.l,jL.o⟩
end
structure Clu (w:aa) (cl:Nat) (db mb:Nat->Nat) (L:Nat->KV):Prop where
 p:∀i,i<4->∃mv,qN w cl i (db i) (mb i) mv (L i)
 ne:∀i j,i<4->j<4->mb i=mb j->i=j
 len:∀i,i<4->(L i).length<=12
def zh (L:Nat->KV) (n:Nat) (x:KV):Nat->KV:=λi=>if i=n then x else L i
theorem Ez (k:Bs):q9 k<4:=by
 unfold q9 shd;split
 ·decide
 ·split
  ·decide
  ·split<;>decide
section
variable {w w':aa} {cl:Nat} {db mb:Nat->Nat} {L:Nat->KV}
def DU (L:Nat->KV) (k:Bs):Bs:=if iL k then(qz (L (q9 k)) k).getD []else[]
def DV (L:Nat->KV) (k:Bs):Int:=if iL k then(if(qz (L (q9 k)) k).isSome then 0 else 6)else 2
def Xt (w:aa) (v:Bs) (c:Int) (e:bG) (w':aa):Prop:=e=.returned (.tuple #[sv v,.int .i64 c])/\aq w.heap.size w w'
theorem q3n (h:Clu w cl db mb L) (k:ByteArray) (hs:k.size<=az):
  ax prog 30 #[.pointer (some ⟨cl,0,none⟩),.string k] w (Xt w (DU L k.data.toList) (DV L k.data.toList)):=by
 have HH:=Hd h;clear h;cases hk:iL k.data.toList
 ·have HK:=Hd hk;clear hk;go_enter func30,ntmps30;go_wp2_with (go_at_call 51;refine(L9 _ _ HK.o hs).mono ?_;rintro e w1 ⟨rfl,hb⟩)
  go_ret2;unfold DU DV;rw[HK.o];exact⟨rfl,hb⟩
 ·have HK:=Hd hk;clear hk;have hn:=Ez k.data.toList;obtain⟨mv,hp⟩:=HH.p _ hn;have HG:Hid (DU L k.data.toList=(qz (L (q9 k.data.toList)) k.data.toList).getD []/\DV L k.data.toList=if(qz (L (q9 k.data.toList)) k.data.toList).isSome then 0 else 6):=by
   unfold DU DV;rw[HK.o];exact⟨rfl,rfl⟩
  generalize vN:q9 k.data.toList=n at*;have HN:=Hd vN;have HP:=Hd hp;obtain⟨x,hx⟩:∃x,qz (L n) k.data.toList=x:=⟨_,rfl⟩
  rw[hx]at HG;have HX:=Hd hx;clear hp vN hx;have Bc:((n:Int)<4):=by omega
  cases x;all_goals
   go_enter func30,ntmps30;go_wp2_with (first
    |(go_at_call 51;refine(Ee _ _ HK.o).mono ?_;rintro e w1 ⟨rfl,hb⟩;rw[HN.o];have VU:=Hd (HP.below hb);have BH:=Hd hb;obtain⟨pd,pv,pm,pl⟩:=VU.o;clear hb pl)
    |(go_at_call 52;refine(JM pm VU.l k hs).mono ?_;rintro e w2 ⟨rfl,fO⟩;rw[HX.o];have gZ:=Hd (BH.trans (fO.mono BH.size));clear fO))
   go_ret2;exact⟨by rw[HG.1,HG.2];rfl,gZ.o⟩
end
structure Mdl (w:aa) (ml sb:Nat) (lv:Nat->ac) (mp:Nat->Option Addr) (L:Nat->KV):Prop where
 s:∃cap,w.cell? ⟨ml,1,none⟩=some (.slice (some ⟨sb,0,none⟩) 4 cap)
 t:∃mc,w.heap[ml]?=some (.cells mc 188 (0,0))
 b:∃cur,w.heap[sb]?=some (.cells cur 191 (0,0))/\∀i,i<4->cur[i*3+1]?=some (lv i)/\cur[i*3+2]?=some (.pointer (mp i))/\∃o:Int,cur[i*3]?=some (.int .i64 o)
 r:∀i,i<4->jH w 0 (lv i) (L i)
def qg {α:Type} (L:Nat->α) (n:Nat) (x:α):Nat->α:=λi=>if i=n then x else L i
theorem qj {α:Type} (L:Nat->α) (n:Nat) (x:α):qg L n x n=x:=by unfold qg;rw[if_pos rfl]
theorem ql {α:Type} (L:Nat->α) (x:α) (h:i≠n):qg L n x i=L i:=by unfold qg;rw[if_neg h]
section
variable {w w':aa} {ml sb:Nat} {lv:Nat->ac} {mp:Nat->Option Addr} {L:Nat->KV}
theorem jH.block {v:ac} {l:KV} (h:jH w 0 v l) (k:∀g,v.ownBlock=some g->w'.heap[g]?=w.heap[g]?):jH w' 0 v l:=by
 refine⟨⟨h.1.1,h.1.2.imp id ?_⟩,h.2.block k⟩;rintro⟨g,cap,cur,rfl,h1,h2,h3⟩;exact⟨g,cap,cur,rfl,h1,(k g rfl).trans h2,h3⟩
end
theorem But.setCell {B:Nat->Prop} (h:But B w w') (hb:B b) (o:Nat) (v:ac):But B w (w'.setCell ⟨b,o,none⟩ v):=
 ⟨by simpa using h.size,λk hk hn=>(xho w' _ k v λe=>hn (by subst e;exact hb)).trans (h.keep k hk hn),h.os,h.output⟩
section
variable {w:aa} {ml sb:Nat} {lv:Nat->ac} {mp:Nat->Option Addr} {L:Nat->KV}
theorem RB {α:Type} (L:Nat->α) (n:Nat):qg L n (L n)=L:=by
 funext i;unfold qg;split
 ·rename_i h;rw[h]
 ·rfl
theorem XY {v:ac} {l:KV} (h:jH w b v l):∃sa cp,v=.slice sa l.length cp:=by
 rcases h.1.2 with⟨rfl,hz⟩|⟨g,cap,cur,rfl,_⟩
 ·exact⟨none,0,by rw[hz]⟩
 ·exact⟨_,_,rfl⟩
end
section
variable {w:aa} {ml sb:Nat} {lv:Nat->ac} {mp:Nat->Option Addr} {L:Nat->KV}
end
def SS (x:Nat->ac):Array ac:=#[x 0,x 1,x 2,x 3,x 4,x 5,x 6,x 7,x 8,x 9,x 10,x 11,x 12,x 13,x 14,x 15,x 16,x 17,x 18,x 19,x 20,x 21,x 22,x 23,x 24,x 25,x 26,x 27,x 28,x 29,x 30,x 31,x 32,x 33,x 34,x 35,x 36,x 37,x 38,x 39,x 40,x 41,x 42,x 43,x 44,x 45,x 46,x 47,x 48,x 49,x 50,x 51,x 52,x 53,x 54,x 55,x 56,x 57,x 58,x 59,x 60,x 61,x 62,x 63,x 64,x 65,x 66,x 67,x 68,x 69,x 70,x 71,x 72,x 73,x 74,x 75,x 76,x 77,x 78,x 79,x 80,x 81,x 82,x 83,x 84,x 85,x 86,x 87,x 88,x 89,x 90,x 91,x 92,x 93,x 94,x 95,x 96,x 97,x 98,x 99,x 100,x 101,x 102,x 103,x 104,x 105,x 106,x 107,x 108,x 109,x 110,x 111,x 112,x 113,x 114,x 115,x 116,x 117,x 118,x 119,x 120,x 121,x 122,x 123,x 124,x 125,x 126,x 127,x 128,x 129,x 130,x 131,x 132,x 133,x 134,x 135,x 136,x 137,x 138,x 139,x 140,x 141,x 142,x 143,x 144,x 145,x 146,x 147,x 148,x 149,x 150,x 151,x 152,x 153,x 154,x 155,x 156,x 157,x 158,x 159,x 160,x 161,x 162,x 163,x 164,x 165,x 166,x 167,x 168,x 169,x 170,x 171,x 172,x 173,x 174,x 175,x 176,x 177,x 178,x 179,x 180,x 181,x 182,x 183,x 184,x 185,x 186,x 187,x 188,x 189,x 190,x 191,x 192,x 193,x 194,x 195,x 196,x 197,x 198,x 199,x 200,x 201,x 202,x 203,x 204,x 205,x 206,x 207,x 208,x 209,x 210,x 211,x 212,x 213,x 214,x 215,x 216,x 217,x 218,x 219,x 220,x 221,x 222,x 223]
def upd (x:Nat->ac) (j:Nat) (v:ac):Nat->ac:=λi=>if i=j then v else x i
theorem qb {x:Nat->ac} {v:ac} (h:x j=v):∃y,x=upd y j v:=⟨x,by funext i;unfold upd;split<;>simp_all⟩
def hd1:Code->Code
 |.seq a _=>a
 |c=>c
structure OpV where
 k:Int
 a:Int
 b:Int
 c:Int
 d:Int
 e:Int
 f:Int
 s:ByteArray
 t:ByteArray
 u:ByteArray
section
variable {x:Nat->ac} {w:aa} {Q:Exit->Act->aa->Prop} {o:OpV} {W ob:Nat}
end
namespace Ph
section
open Go.Conc Go.ConcN Go.RowKit Go.Maps Go.Conc.Lib Go Sim
theorem But.same' {B:Nat->Prop} {wc:aa} (s:Same w wc):But B w wc:=⟨by rw[s.heap];exact jd _,λk _ _=>by rw[s.heap],s.os,s.output⟩
structure OpV.Ok (o:OpV):Prop where
 k: -9223372036854775808<=o.k/\o.k<=9223372036854775807
 a: -9223372036854775808<=o.a/\o.a<=9223372036854775807
 b: -9223372036854775808<=o.b/\o.b<=9223372036854775807
 c: -9223372036854775808<=o.c/\o.c<=9223372036854775807
 d: -9223372036854775808<=o.d/\o.d<=9223372036854775807
 e: -9223372036854775808<=o.e/\o.e<=9223372036854775807
 f: -9223372036854775808<=o.f/\o.f<=9223372036854775807
 s:o.s.size<=140737488355328
 t:o.t.size<=140737488355328
 u:o.u.size<=140737488355328
end
section
open Go.Conc Go.ConcN Go.RowKit Go.Conc.Lib Go Sim
open Go.ChangeShapes Go.WideShapes Go.ChangeAt
theorem WT:laidOutB prog=true:=by kernel_rfl
theorem q0x:ownKnob prog.godebug=none:=by kernel_rfl
section
variable {H:Type} {enc:ay×ac->H}
theorem YM {f:FuncId} {args:Array ac} {W:aa} {N:Blocks} {Post:ac->aa->Prop} (jJ:FSb (λ_ _=>False) (Frame.enter XG.P f args .normal)) (hi:XG.P.inits.idxOf? f=none)
  (h:qp N [] [] (Frame.enter XG.P f args .normal) W [] (Ret f λv w'=>v=.bool true/\But (λb=>W.heap.size<=b) W w')) (hp:∀w',But (λb=>W.heap.size<=b) W w'->Post (.bool true) w'):
  ∃M last o w' t',runNT XG.P (M+1) (solo (G (Frame.enter XG.P f args .normal) []) W) #[]=(.ended o w',t')/\runN XG.P M (solo (G (Frame.enter XG.P f args .normal) []) W)=.next last/\step XG.P last=.ended o w'/\Conc.Good XG.P Post last o w' t':=
 q3p (ρ:=λ_ _=>False) h jJ ⟨λh _=>h.elim,λh _=>h.elim,λh=>h.elim,λ_ _=>rfl,λ_ h=>h.elim⟩ (λv hv=>by cases hv) hi
  λv w1 wc s ⟨h1,h2⟩=>by subst h1;exact hp wc (h2.trans (But.same' s))
theorem Rm {t:ay} (hr:prog.readableRec t=true) (mD:t<prog.types.size) {W W':aa} {v:ac} {d:DataW H} {ps:List bP} (h:DataW.Trod enc prog W 0 (λ_=>true) true t v d ps) (hb:But (λb=>W.heap.size<=b) W W') (eB:∀x∈ps,x.block<W.heap.size):
  DataW.Trod enc prog W' 0 (λb=>decide (b<W.heap.size)) true t v d ps:=
 WideElems.Trod_stays WT hr mD h (λx hx=>by
  have Df:=eB x hx;cases x with
  |cell b o=>exact xcb (w:=W) (hb.keep b Df (bQ.2 Df))
  |map b=>exact hb.keep b Df (bQ.2 Df)) (λx hx=>by simpa using eB x hx)
theorem Yy {W:aa} (h:But (λb=>W.heap.size<=b) W w') (may:bP->Prop):W.keptBut w' may:=by
 refine⟨h.os,h.output,λi hi=>?_⟩;rw[h.keep i hi (bQ.2 hi)];split<;>simp_all
end
end
end Ph
section
def poly:Nat:=2197175160
def CB (x:Nat):Nat:=if x%2=1 then(x/2)^^^poly else x/2
def P8 (x bit:Nat):Nat:=if bit≠x%2 then(x/2)^^^poly else x/2
def yN:Nat->Nat->Nat
 |0,x=>x
 |k+1,x=>CB (yN k x)
def El (b:Nat):Nat->Nat->Nat
 |0,x=>x
 |k+1,x=>P8 (El b k x) (b/2^k%2)
theorem q14 (a b:Nat):(a^^^b)/2=(a/2)^^^(b/2):=by
 apply Nat.eq_of_testBit_eq;intro i;simp[Nat.testBit_div_two,Nat.testBit_xor]
theorem q7a (a b:Nat):(a^^^b)%2=(a%2+b%2)%2:=by
 have h:=Nat.testBit_xor a b 0;simp only[Nat.testBit_zero]at h;have e1:=au a;have e2:=au b;have e3:=au (a^^^b);rcases e1 with e1|e1<;>rcases e2 with e2|e2<;>rcases e3 with e3|e3<;>simp[e1,e2,e3]at h⊢
theorem Xe (x b:Nat):∀k,yN k (x^^^b)=El b k x^^^(b/2^k)
 |0=>by simp[yN,El]
 |k+1=>by
  rw[yN,El,Xe x b k];have hd:b/2^(k+1)=b/2^k/2:=by rw[aD,Nat.div_div_eq_div_mul]
  rw[hd];generalize El b k x=m;generalize b/2^k=c;unfold CB P8;rw[q7a,q14];have e1:=au m;have e2:=au c;have sw:(m/2^^^c/2)^^^poly=(m/2^^^poly)^^^c/2:=by rw[Nat.xor_assoc,Nat.xor_assoc,Nat.xor_comm (c/2) poly]
  rcases e1 with e1|e1<;>rcases e2 with e2|e2<;>simp[e1,e2,sw]
theorem q47:poly<2^32:=by decide
theorem Zf {x:Nat} (h:x<2^32):CB x<2^32:=by
 unfold CB;split
 ·exact aL (by omega) q47
 ·omega
theorem Lx {x:Nat} (h:x<2^32):∀k,yN k x<2^32
 |0=>h
 |k+1=>Zf (Lx h k)
def GK (x:Nat) (b:UInt8):Nat:=yN 8 (x^^^b.toNat)
theorem yK (b:UInt8):b.toNat<256:=b.toNat_lt
theorem Zg {x:Nat} {b:UInt8} (h:x<2^32):GK x b<2^32:=Lx (aL h (by have:=yK b;omega)) 8
def vF (l:List UInt8):Nat:=l.foldl GK 4294967295
theorem QO:∀(l:List UInt8) (x:Nat),x<2^32->l.foldl GK x<2^32
 |[],_,h=>h
 |_::l,_,h=>QO l _ (Zg h)
theorem Lp (l:List UInt8):vF l<2^32:=QO l _ (by decide)
theorem Z4 (l:List UInt8) (b:UInt8):vF (l++[b])=GK (vF l) b:=by simp[vF]
def chk (l:List UInt8):Nat:=4294967295-vF l
theorem P9 (l:List UInt8):chk l<2^32:=by unfold chk;omega
def b8 (n:Nat):UInt8:=UInt8.ofNat n
def ve (n:Nat):List UInt8:=if h:n<128 then[b8 n]else b8 (128+n%128)::ve (n/128)
termination_by n
decreasing_by omega
theorem vI (h:n<128):ve n=[b8 n]:=by rw[ve,dif_pos h]
theorem CQ (h:¬n<128):ve n=b8 (128+n%128)::ve (n/128):=by rw[ve,dif_neg h]
def zk (s:List UInt8):List UInt8:=ve s.length++s
def mX:Nat->Bool->Nat->Nat->List UInt8->Option (Nat×List UInt8)
 |0,_,_,_,_=>none
 |_+1,_,_,_,[]=>none
 |k+1,first,a,m,b::s=>if !first&&b.toNat==0 then none else if b.toNat<128 then some (a+b.toNat*m,s)else mX k false (a+b.toNat%128*m) (m*128) s
def yh (s:List UInt8):Option (Nat×List UInt8):=mX 4 true 0 1 s
def vo (s:List UInt8):Option (List UInt8×List UInt8):=(yh s).bind λp=>if p.2.length<p.1 then none else some (p.2.take p.1,p.2.drop p.1)
theorem Qq:∀(k:Nat) (first:Bool) (a m:Nat) (s:List UInt8) (n:Nat) (r:List UInt8),mX k first a m s=some (n,r)->∃d,n=a+d*m/\s=ve d++r/\(first=false->0<d)/\d<128^k
 |0,_,_,_,_,_,_,h=>by simp[mX]at h
 |_+1,_,_,_,[],_,_,h=>by simp[mX]at h
 |k+1,first,a,m,b::s,n,r,h=>by
  rw[mX]at h;split at h
  ·cases h
  ·rename_i hb;split at h
   ·rename_i h1;simp only[aY,aS]at h;obtain⟨rfl,rfl⟩:=h;refine⟨b.toNat,rfl,?_,λhf=>?_,?_⟩
    ·rw[vI h1];simp[b8]
    ·subst hf;simp at hb;omega
    ·calc b.toNat<128:=h1
      _=128^1:=rfl
      _<=128^(k+1):=aV (by decide) (by omega)
   ·rename_i h1;obtain⟨d,h2,h3,h4,h5⟩:=Qq k false _ _ s n r h;have fO:=yK b;refine⟨b.toNat%128+128*d,?_,?_,λ_=>by have:=h4 rfl;omega,?_⟩
    ·have e0:d*(m*128)=128*d*m:=by rw[Nat.mul_comm m 128,<-Nat.mul_assoc,Nat.mul_comm d 128]
     rw[h2,e0,Nat.add_mul];omega
    ·have hp:=h4 rfl;rw[CQ (by omega),h3];have e1:(b.toNat%128+128*d)%128=b.toNat-128:=by omega
     have e2:(b.toNat%128+128*d)/128=d:=by omega
     rw[e1,e2];have e3:b8 (128+(b.toNat-128))=b:=by
      have:128+(b.toNat-128)=b.toNat:=by omega
      rw[this];simp[b8]
     rw[e3];rfl
    ·rw[aD];omega
theorem QZ:∀(k:Nat) (first:Bool) (a m d:Nat) (r:List UInt8),d<128^(k+1)->(first=false->0<d)->mX (k+1) first a m (ve d++r)=some (a+d*m,r)
 |k,first,a,m,d,r,hd,hf=>by
  by_cases h:d<128
  ·rw[vI h];have e:(b8 d).toNat=d:=by simp[b8];omega
   show mX (k+1) first a m (b8 d::r)=_
   rw[mX,e,if_neg (by cases first<;>simp;have:=hf rfl;omega),if_pos h]
  ·rw[CQ h];have e:(b8 (128+d%128)).toNat=128+d%128:=by simp[b8];omega
   show mX (k+1) first a m (b8 (128+d%128)::(ve (d/128)++r))=_
   rw[mX,e,if_neg (by simp),if_neg (by omega)];match k,hd with
   |0,hd=>omega
   |k+1,hd=>
    rw[QZ k false _ _ (d/128) r (by rw[aD]at hd;exact Nat.div_lt_of_lt_mul (by omega)) (λ_=>by omega)];have e2:(128+d%128)%128=d%128:=by omega
    rw[e2];have e3:d%128*m+d/128*(m*128)=d*m:=by
     have:d=d%128+d/128*128:=by omega
     calc d%128*m+d/128*(m*128)=(d%128+d/128*128)*m:=by rw[Nat.add_mul,Nat.mul_assoc,Nat.mul_comm 128 m]
      _=d*m:=by rw[<-this]
    rw[<-e3,Nat.add_assoc]
theorem KO {s:List UInt8} {r:List UInt8} (h:yh s=some (n,r)):s=ve n++r/\n<268435456:=by
 obtain⟨d,h1,h2,_,h4⟩:=Qq 4 true 0 1 s n r h;have:n=d:=by omega
 subst this;exact⟨h2,h4⟩
theorem CY (h:n<268435456) (r:List UInt8):yh (ve n++r)=some (n,r):=by
 have:=QZ 3 true 0 1 n r h (λe=>by cases e);simpa[yh]using this
theorem Zt {s t r:List UInt8} (h:vo s=some (t,r)):s=zk t++r/\t.length<268435456:=by
 unfold vo at h;cases hn:yh s with
 |none=>rw[hn]at h;cases h
 |some p=>
  obtain⟨n,q⟩:=p;rw[hn]at h;simp only[ae]at h;split at h
  ·cases h
  ·rename_i hl;simp only[aY,aS]at h;obtain⟨rfl,rfl⟩:=h;obtain⟨h1,h2⟩:=KO hn;have hlen:(q.take n).length=n:=by rw[bd];omega
   refine⟨?_,by omega⟩;unfold zk;rw[hlen,h1,bB,bj]
theorem C9 {t:List UInt8} (h:t.length<268435456) (r:List UInt8):vo (zk t++r)=some (t,r):=by
 unfold vo zk;rw[bB,CY h];simp
structure Fr where
 kind:Nat
 qc:Nat
 id:Nat
 n:Nat
 load:List UInt8
def le4 (x:Nat):List UInt8:=[b8 x,b8 (x/256),b8 (x/65536),b8 (x/16777216)]
def Fr.body (f:Fr):List UInt8:=[b8 f.kind,b8 f.qc]++ve f.id++ve f.n++zk f.load
def Fr.bytes (f:Fr):List UInt8:=f.body++le4 (chk f.body)
structure Fr.Ok (f:Fr):Prop where
 kind:f.kind<256
 qc:f.qc<256
 id:f.id<268435456
 n:f.n<268435456
 load:f.load.length<268435456
def parse:List UInt8->Option Fr
 |k::sh::r=>(yh r).bind λp=>(yh p.2).bind λq=>(vo q.2).bind λt=>if t.2=[]then some ⟨k.toNat,sh.toNat,p.1,q.1,t.1⟩else none
 |_=>none
def xg (s:List UInt8):Option Fr:=if s.length<4 then none else if s.drop (s.length-4)=le4 (chk (s.take (s.length-4)))then parse (s.take (s.length-4))else none
theorem Xz (b:UInt8):b8 b.toNat=b:=by simp[b8]
theorem uj (h:n<256):(b8 n).toNat=n:=by simp[b8];omega
theorem q02 {s:List UInt8} {f:Fr} (h:parse s=some f):s=f.body/\f.Ok:=by
 unfold parse at h;split at h
 ·rename_i k sh r;cases h1:yh r with
  |none=>rw[h1]at h;cases h
  |some p=>
   obtain⟨id,r1⟩:=p;rw[h1]at h;simp only[ae]at h;cases h2:yh r1 with
   |none=>rw[h2]at h;cases h
   |some q=>
    obtain⟨n,r2⟩:=q;rw[h2]at h;simp only[ae]at h;cases h3:vo r2 with
    |none=>rw[h3]at h;cases h
    |some t=>
     obtain⟨t,r3⟩:=t;rw[h3]at h;simp only[ae]at h;split at h
     ·rename_i h4;cases h;subst h4;obtain⟨a1,a2⟩:=KO h1;obtain⟨b1,b2⟩:=KO h2;obtain⟨c1,c2⟩:=Zt h3;refine⟨?_,yK k,yK sh,a2,b2,c2⟩;rw[a1,b1,c1];simp[Fr.body,Xz]
     ·cases h
 ·cases h
theorem YX {f:Fr} (h:f.Ok):parse f.body=some f:=by
 have e:f.body=b8 f.kind::b8 f.qc::(ve f.id++(ve f.n++(zk f.load++[]))):=by simp[Fr.body]
 rw[e];unfold parse;simp only[CY h.id,CY h.n,C9 h.load,ae,if_true];rw[uj h.kind,uj h.qc]
theorem C8 {f:Fr} (h:f.Ok):xg f.bytes=some f:=by
 have hl:f.bytes.length=f.body.length+4:=by simp[Fr.bytes,le4]
 have e1:f.bytes.length-4=f.body.length:=by omega
 unfold xg;rw[if_neg (by omega),e1];have e2:f.bytes.take f.body.length=f.body:=by simp[Fr.bytes]
 have e3:f.bytes.drop f.body.length=le4 (chk f.body):=by simp[Fr.bytes]
 rw[e2,e3,if_pos rfl,YX h]
theorem q1a {s:List UInt8} {f:Fr} (h:xg s=some f):s=f.bytes/\f.Ok:=by
 unfold xg at h;split at h
 ·cases h
 ·split at h
  ·rename_i hd;obtain⟨h1,h2⟩:=q02 h;refine⟨?_,h2⟩;unfold Fr.bytes;rw[<-h1,<-hd,bj]
  ·cases h
end
section
open Go.RowKit Go.Maps
theorem ZY:4294967295&&&poly=poly:=by decide
theorem ZK (y:Nat) (hy:y<2^32):bits .xor .u32 ((y:Int)/2) (bits .and .u32 (-bits .and .u32 (y:Int) 1%4294967296) 2197175160)=((CB y:Nat):Int):=by
 have e1:bits .and .u32 (y:Int) 1=((y%2:Nat):Int):=by
  have:=u32_and_nat y 1 (by omega) (by decide);rw[show((1:Nat):Int)=1 from rfl,nat_mask1]at this;exact this
 rw[e1];have e2:((y:Int)/2)=((y/2:Nat):Int):=by omega
 rw[e2];unfold CB;by_cases h:y%2=1
 ·rw[h,if_pos rfl];have e3:(-((1:Nat):Int)%4294967296)=((4294967295:Nat):Int):=by decide
  rw[e3];have e4:=u32_and_nat 4294967295 poly (by decide) (by decide);rw[ZY]at e4;rw[show(2197175160:Int)=((poly:Nat):Int)from rfl,e4];exact u32_xor_nat _ _ (by omega) (by decide)
 ·have h0:y%2=0:=by omega
  rw[h0,if_neg (by decide)];have e3:(-((0:Nat):Int)%4294967296)=((0:Nat):Int):=by decide
  rw[e3];have e4:=u32_and_nat 0 poly (by decide) (by decide);rw[Nat.zero_and]at e4;rw[show(2197175160:Int)=((poly:Nat):Int)from rfl,e4];have e5:=u32_xor_nat (y/2) 0 (by omega) (by decide);rw[Nat.xor_zero]at e5;exact e5
theorem q69 (n:Nat) (h:n<2^32):4294967295^^^n=4294967295-n:=by
 apply Nat.eq_of_testBit_eq;intro i;rw[Nat.testBit_xor,show(4294967295:Nat)=2^32-1 from rfl,Nat.testBit_two_pow_sub_one,show 2^32-1-n=2^32-(n+1) by omega,Nat.testBit_two_pow_sub_succ h];by_cases hi:i<32
 ·simp[hi]
 ·have:n.testBit i=false:=Nat.testBit_lt_two_pow (xll h (aV (by decide) (by omega)));simp[hi,this]
theorem Ti (n:Nat) (h:n<9223372036854775808):IntKind.i64.wrap (n:Int)=(n:Int):=by rw[IntKind.wrap_i64];omega
theorem q7y (a b:Nat) (ha:a<2^63) (hb:b<2^63):bits .xor .i64 (a:Int) (b:Int)=((a^^^b:Nat):Int):=by
 show IntKind.i64.wrap ((bg 64 (a:Int)^^^bg 64 (b:Int)).toNat:Int)=_;rw[BitVec.toNat_xor,bI a (by omega),bI b (by omega)];exact Ti _ (aL ha hb)
theorem Y6 (a b:Nat) (ha:a<2^63) (hb:b<2^63):bits .or .i64 (a:Int) (b:Int)=((a|||b:Nat):Int):=by
 show IntKind.i64.wrap ((bg 64 (a:Int)|||bg 64 (b:Int)).toNat:Int)=_;rw[BitVec.toNat_or,bI a (by omega),bI b (by omega)];exact Ti _ (Nat.or_lt_two_pow ha hb)
section
variable {w:aa}
theorem QE (s:ByteArray) (hs:s.size<=4611686018427387904):ax prog 61 #[.string s] w λe w'=>e=.returned (.int .u32 (chk s.data.toList:Nat))/\w'=w:=by
 go_enter func61,ntmps61;go_wp2;go_loop [3,4,7] (λx y i=>∃k:Nat,k<=s.size/\i=.int .i64 k/\x=.int .u32 (vF (s.data.toList.take k):Nat)) (λ_ _ i=>s.size-(intOf i).toNat);case atStart=>exact⟨0,xzl _,rfl,rfl⟩
 case round=>
  obtain⟨k,hk,rfl,rfl⟩:=hrel;by_cases eB:k<s.size
  ·obtain⟨X,hX⟩:∃X,vF (s.data.toList.take k)=X:=⟨_,rfl⟩
   have Vj:X<2^32:=hX▸Lp _;have hb:s[k].toNat<256:=yK _;have e0:bits .xor .u32 (X:Int) ((s[k].toNat:Int)%4294967296)=((X^^^s[k].toNat:Nat):Int):=by
    rw[show((s[k].toNat:Int)%4294967296)=((s[k].toNat:Nat):Int) by omega];exact u32_xor_nat _ _ (by omega) (by omega)
   have HS:Hid (vF (s.data.toList.take (k+1))=yN 8 (X^^^s[k].toNat)):=Hd (by
    rw[List.take_succ_eq_append_getElem (by simpa using eB),Z4,hX];rfl)
   have HY:=Hd (aL (n:=32) Vj (show s[k].toNat<2^32 by omega));rw[hX];have HX:=Hd hX;clear hX Vj hb;go_wp2;generalize (X^^^s[k].toNat)=Y at*;go_loop [3,16,18,19,20,21,22,23,24,25,17] (λx j _ _ _ _ _ _ _ _ _=>∃m:Nat,m<=8/\j=.int .i64 m/\x=.int .u32 (yN m Y:Nat)) (λ_ j _ _ _ _ _ _ _ _ _=>8-(intOf j).toNat);case atStart=>exact⟨0,xzl _,rfl,rfl⟩
   case round=>
    obtain⟨m,hm,rfl,rfl⟩:=hrel;by_cases hm8:m<8
    ·go_wp2;go_round;case rel=>
      refine⟨m+1,by omega,by go_num,?_⟩;rw[ZK _ (Lx HY.o m)];rfl
     case measure=>simp[intOf];omega
    ·obtain rfl:m=8:=by omega
     go_wp2;go_round;case rel=>exact⟨k+1,by omega,by go_num,by rw[HS.o]⟩
     case measure=>simp[intOf];omega
  ·obtain rfl:k=s.size:=by omega
   go_wp2;go_ret;refine⟨?_,rfl⟩;have hl:s.data.toList.take s.size=s.data.toList:=aE (by simp);have h1:bits .xor .u32 IntKind.u32.max (vF s.data.toList:Nat)=((chk s.data.toList:Nat):Int):=by
    have:=u32_xor_nat 4294967295 (vF s.data.toList) (by decide) (Lp _);rw[q69 _ (Lp _)]at this;exact this
   rw[hl,h1];rfl
end
theorem vk:∀(k n:Nat),n<128^(k+1)->(ve n).length<=k+1
 |0,n,h=>by rw[vI (by omega)];simp
 |k+1,n,h=>by
  by_cases hs:n<128
  ·rw[vI hs];simp
  ·rw[CQ hs,aP];have:=vk k (n/128) (Nat.div_lt_of_lt_mul (by rw[aD]at h;omega));omega
theorem jen:∀x,x<256->x|||128=128+x%128:=by decide
theorem q0v (m:Nat):bits .or .u8 ((m:Int)%256) 128=(((b8 (128+m%128)).toNat:Nat):Int):=by
 have e:((m:Int)%256)=((m%256:Nat):Int):=by omega
 rw[e];have:=u8_or_nat (m%256) 128 (by omega) (by decide);rw[show((128:Nat):Int)=128 from rfl]at this;rw[this,jen _ (by omega),uj (by omega)];omega
def bv (b:UInt8):ac:=.int .u8 (b.toNat:Int)
theorem Xh:∃i,prog.info? 5=some i/\i.zero=some (.int .u8 0)/\i.size=1/\i.bytes=1:=by
 have h:(prog.info? 5).map (λi=>(i.zero,i.size,i.bytes))=some (some (.int .u8 0),1,1):=by kernel_rfl
 obtain⟨i,h1,h2⟩:=bh.1 h;injection h2 with h2 h3;injection h3 with h3 h4;exact⟨i,h1,h2,h3,h4⟩
theorem Yx {base:Nat} {v:ac} (h:w.ownsRow base 5 1 v l.length (l.map bv)):(convert 26 9 v).run prog w=.ok (.string ⟨l.toArray⟩) w:=by
 rcases h.2 with⟨rfl,hz⟩|⟨g,cap,cur,rfl,_⟩
 ·have:l=[]:=List.length_eq_zero_iff.1 hz;subst this;show Sem.run prog (convert 26 9 (.slice none 0 0)) w=.ok (.string ⟨#[]⟩) w;kernel_rfl
 ·exact run_convert_bytes_back (P:=prog) _ 26 9 5 ⟨g,0,none⟩ cap l underlying26 underlying5 underlying9 (λj hj=>by
   have:=h.cells rfl j (bv l[j]) (by simp[hj])
   rwa [aI]at this⊢)
structure yA (N:Nat) (w:aa) (l:List UInt8) (m:Nat) (v:ac) (wr:aa):Prop where
 le:m<=N
 eq:ve N=l++ve m
 own:wr.ownsRow w.heap.size 5 1 v l.length (l.map bv)
 below:aq w.heap.size w wr
theorem yA.len {wr:aa} {v:ac} (h:yA N w l m v wr) (hN:N<9223372036854775808):l.length<=9:=by
 have:=vk 8 N (by simpa using hN);rw[h.eq,aj]at this;have:0<(ve m).length:=by
  by_cases hs:m<128
  ·rw[vI hs];simp
  ·rw[CQ hs];simp
 omega
theorem TG (w:aa) (a:ac) (ty:ay):∀(j:Nat) (u:ac),[a][j]?=some u->(w.alloc (.cells #[a] ty)).cell? ((⟨w.heap.size,0,none⟩:Addr).add j)=some u:=λj u hj=>by
 rw[aI,aN];match j,hj with
 |0,hj=>simp at hj;subst hj;go_simp
theorem AB {base size:Nat} {ty:ay} {v:ac} (h:w.ownsRow base ty size v n xs):∃sa cp,v=.slice sa n cp:=by
 rcases h.2 with⟨rfl,hz⟩|⟨g,cap,cur,rfl,_⟩
 ·exact⟨none,0,by rw[hz]⟩
 ·exact⟨_,_,rfl⟩
theorem yA.last {wr:aa} {v v2:ac} (h:yA N w l m v wr) (hm:m<128) (hr:w2.ownsRow w.heap.size 5 1 v2 (l.length+1) (l.map bv++[.int .u8 (m:Int)])) (hg:(wr.alloc o).grownBy w2 v.ownBlock):
  (convert 26 9 v2).run prog w2=.ok (.string ⟨(ve N).toArray⟩) w2/\aq w.heap.size w w2:=by
 refine⟨?_,(h.below.alloc h.below.size o).grown hg (by have:=h.below.size;simp;omega) λb hb=>(h.own.lt b hb).1⟩;have e:ve N=l++[b8 m]:=by rw[h.eq,vI hm]
 have eb:bv (b8 m)=.int .u8 (m:Int):=by
  unfold bv;rw[uj (by omega)]
 rw[e];refine Yx (base:=w.heap.size) ?_;rw[aj,List.map_append,cf,co,eb];exact hr
theorem yA.more {wr:aa} {v v2:ac} (h:yA N w l m v wr) (hm:¬m<128) (hr:w2.ownsRow w.heap.size 5 1 v2 (l.length+1) (l.map bv++[.int .u8 (((b8 (128+m%128)).toNat:Nat):Int)])) (hg:(wr.alloc o).grownBy w2 v.ownBlock):
  yA N w (l++[b8 (128+m%128)]) (m/128) v2 w2:=by
 refine⟨xlt (Nat.div_le_self _ _) h.le,?_,?_,(h.below.alloc h.below.size o).grown hg (by have:=h.below.size;simp;omega) λb hb=>(h.own.lt b hb).1⟩
 ·rw[h.eq,CQ hm];simp
 ·rw[aj,List.map_append];exact hr
section
variable {w:aa}
theorem yD (N:Nat) (hN:N<9223372036854775808):ax prog 57 #[.int .i64 N] w λe w'=>e=.returned (.string ⟨(ve N).toArray⟩)/\aq w.heap.size w w':=by
 obtain⟨pi,l1,l2,l3,l4⟩:=Xh;have HI:=Hd (ah l1 (ah l2 (ah l3 l4)));have HN:=Hd hN;clear l1 l2 l3 l4;go_enter func57,ntmps57;go_wp2;go_loopw [0,3,4,5,6,7,8,9,10,11,12,13] (λi v _ _ _ _ _ _ _ _ _ _ wr=>∃(l:List UInt8) (m:Nat) (sa:Option Addr) (cp:Nat),i=.int .i64 m/\v=.slice sa l.length cp/\Hid (yA N w l m (.slice sa l.length cp) wr)) (λi _ _ _ _ _ _ _ _ _ _ _ _=>(intOf i).toNat);case atStart=>exact⟨[],N,none,0,rfl,rfl,Hd ⟨jd _,rfl,aZ _ _ _ _,j5 _ _⟩⟩
 case round=>
  obtain⟨l,m,sa,cp,rfl,rfl,HM⟩:=hrel;have hlen:=HM.len HN.o;have Dk:m<=9223372036854775807:=by have:=HM.le;have:=HN.o;omega
  by_cases eB:127<m
  ·have eA:=q0v m;have eY:=HM.below.size;go_wp2_with (at_builtin;(refine aF _ rfl (.tmp 8) (.tmp 12) 26 rfl w.heap.size 5 pi _ 1 1 underlying26 HI.1 HI.2.1 HI.2.2.1 HI.2.2.2 rfl (by decide) (.slice sa l.length cp) l.length (l.map bv) rfl (HM.own.alloc _) ⟨wr.heap.size,0,none⟩ 1 1 [.int .u8 (((b8 (128+m%128)).toNat:Nat):Int)] rfl rfl (TG wr _ _) (by intro u hu;simp at hu;subst hu;rfl) (by unfold az;omega) (by omega) (by simp;omega) ?_;intro v2 w2 fB iq _;obtain⟨zV,BA,mh⟩:=AB fB;have H2:=Hd (HM.more (by omega) fB iq);rw[mh]at H2;rw[mh];clear fB iq mh))
   go_roundw;case rel=>exact⟨l++[b8 (128+m%128)],m/128,zV,BA,by simp,by simp,by simpa using H2⟩
   case measure=>simp[intOf];omega
  ·have eY:=HM.below.size;go_wp2_with (at_builtin;(refine aF _ rfl (.tmp 14) (.tmp 17) 26 rfl w.heap.size 5 pi _ 1 1 underlying26 HI.1 HI.2.1 HI.2.2.1 HI.2.2.2 rfl (by decide) (.slice sa l.length cp) l.length (l.map bv) rfl (HM.own.alloc _) ⟨wr.heap.size,0,none⟩ 1 1 [.int .u8 (m:Int)] rfl rfl (TG wr _ _) (by intro u hu;simp at hu;subst hu;rfl) (by unfold az;omega) (by omega) (by simp;omega) ?_;intro v2 w2 fB iq _;obtain⟨zV,BA,mh⟩:=AB fB;obtain⟨jcv,fO⟩:=HM.last (by omega) fB iq;have gZ:=Hd fO;rw[mh]at jcv;rw[mh];clear fB iq mh fO))
   go_ret;exact⟨rfl,gZ.o⟩
theorem TY (s:ByteArray) (hs:s.size<=140737488355328):ax prog 58 #[.string s] w λe w'=>e=.returned (.string ⟨(zk s.data.toList).toArray⟩)/\aq w.heap.size w w':=by
 have hl:(⟨(zk s.data.toList).toArray⟩:ByteArray)=(⟨(ve s.size).toArray⟩:ByteArray)++s:=by
  apply ByteArray.ext;rw[aO];unfold zk;apply Array.ext';simp
 have hn:(⟨(ve s.size).toArray⟩:ByteArray).size<=9:=by
  have:=vk 8 s.size (by omega);show(ve s.size).toArray.size<=9;simpa using this
 rw[hl];have HC:=yD (w:=w) s.size (by omega);have HC:=Hd HC;clear hl;generalize (⟨(ve s.size).toArray⟩:ByteArray)=nb at*;go_enter func58,ntmps58;go_wp2_with (go_at_call 57;refine HC.mono ?_;rintro e w1 ⟨rfl,iI⟩;have BH:=Hd iI;clear iI)
 go_ret;exact⟨rfl,BH.o⟩
end
section
variable {w:aa}
theorem RD {v:ac} {l:KV} {base:Nat} (h:w.ownsRow base 62 2 v l.length (flat l)) {g:Nat} (hg:v.ownBlock=some g) {p:Bs×Bs} (hp:l[j]?=some p):w.cell? ⟨g,j*2,none⟩=some (sv p.1)/\w.cell? ⟨g,j*2+1,none⟩=some (sv p.2):=by
 obtain⟨q1,q2⟩:=flat_get l j p hp;have d1:=h.cells hg _ _ q1;have d2:=h.cells hg _ _ q2;rw[aI,aN]at d1 d2;exact⟨d1,d2⟩
end
structure LW where
 cs:ac
 bs:ac
 out:Nat->Prop
section
variable {n0:Nat} {CS:LW} {w:aa}
def mnK:ByteArray:=⟨#[109,105,110,101]⟩
def mnV (k:Nat):ByteArray:=⟨#[UInt8.ofNat (k%256),UInt8.ofNat (k/256%256),UInt8.ofNat (k/65536%256)]⟩
def PV (w:aa):ac->List ac
 |.slice (some a) n _=>match w.heap[a.block]? with
  |some (.cells cur _ _)=>cur.toList.take n
  |_=>[]
 |_=>[]
def TJ (w:aa) (S:ac) (g:Nat):Prop:= ∃l∈PV w S,l.ownBlock=some g
def q8f (w:aa) (k:Nat) (l:ac):Prop:= ∃m ys,w.ownsRow 0 62 2 l m ys/\∀i,i<m->ys[i*2]?=some (.string mnK)/\ys[i*2+1]?=some (.string (mnV k))
structure LsAt (n0:Nat) (w:aa) (W:Nat) (CS:LW) (S:ac) (n:Nat):Prop where
 b:∃cur,w.heap[W]?=some (.cells cur 105 (0,0))/\cur[2]?=some S/\cur[0]?=some CS.cs/\cur[1]?=some CS.bs/\cur[3]?=some (.bool false)
 row:∃xs,w.ownsRow n0 29 1 S n xs
 kept:∀k l,(PV w S)[k]?=some l->q8f w k l
 out:∀g,TJ w S g->¬CS.out g
theorem je {w:aa} {base size:Nat} {ty:ay} {v:ac} (h:w.ownsRow base ty size v n xs) (k:∀g,v.ownBlock=some g->w'.heap[g]?=w.heap[g]?):w'.ownsRow base ty size v n xs:=by
 refine⟨h.1,h.2.imp id ?_⟩;rintro⟨g,cap,cur,rfl,h1,h2,h3⟩;exact⟨g,cap,cur,rfl,h1,(k g rfl).trans h2,h3⟩
theorem Ec {w:aa} {base size:Nat} {ty:ay} {v:ac} (h:w.ownsRow base ty size v n xs) {g:Nat} (hg:v.ownBlock=some g):∃cur,w.heap[g]?=some (.cells cur ty (0,0)):=by
 rcases h.2 with⟨rfl,_⟩|⟨g',cap,cur,rfl,_,h2,_⟩
 ·cases hg
 ·cases hg;exact⟨cur,h2⟩
def jbz (W:Nat) (S l:ac) (b:Nat):Prop:=b=W\/S.ownBlock=some b\/l.ownBlock=some b
structure MnW (n0:Nat) (CS:LW) (w0:aa) (W n m base g cap k:Nat) (S:ac) (x y:ByteArray) (j:Nat) (w:aa):Prop where
 ls:LsAt n0 w W CS S n
 row:∃xs,w.ownsRow base 62 2 (.slice (some ⟨g,0,none⟩) m cap) m xs/\∀i,i<j->xs[i*2]?=some (.string x)/\xs[i*2+1]?=some (.string y)
 new:∀g',TJ w S g'->g'≠g
 mrk:w.heap[k]?=some (.cells #[.string x,.string y] 62 (0,0))
 gk:g<k
 but:But (jbz W S (.slice (some ⟨g,0,none⟩) m cap)) w0 w
section
variable {w0:aa} {W n m base g cap k:Nat} {S:ac} {x y:ByteArray}
end
theorem cell1 (w:aa) (a:ac) (ty:ay):∀(j:Nat) (u:ac),[a][j]?=some u->(w.alloc (.cells #[a] ty)).cell? ((⟨w.heap.size,0,none⟩:Addr).add j)=some u:=λj u hj=>by
 rw[aI,aN];match j,hj with
 |0,hj=>simp at hj;subst hj;go_simp
end
def mpA:Option Nat->Option Addr
 |none=>none
 |some g=>some ⟨g,0,none⟩
def ptr:Option Nat->ac
 |none=>.pointer none
 |some g=>.pointer (some ⟨g,0,none⟩)
theorem Ed (o:Option Nat):ptr o=.pointer (mpA o):=by cases o<;>rfl
def pkV (h k:Nat):ac:=.agg #[.int .i64 h,.int .i64 k]
noncomputable def pk (h k:Nat):Lit:=(keyOf prog 89 (pkV h k)).getD .nil
theorem jet:((bR 16).all λi=>(keyOf prog 89 (pkV (i/4) (i%4))).isSome)=true:=by kernel_rfl
theorem q94 (h:Nat) (hh:h<4) (k:Nat) (hk:k<4):(keyOf prog 89 (pkV h k)).isSome=true:=by
 have:=List.all_eq_true.1 jet (h*4+k) (br.2 (by omega));rwa [show(h*4+k)/4=h by omega,show(h*4+k)%4=k by omega]at this
theorem Ch {k:Nat} (hh:h<4) (hk:k<4):keyOf prog 89 (pkV h k)=some (pk h k):=by
 obtain⟨l,hl⟩:=Option.isSome_iff_exists.1 (q94 h hh k hk);unfold pk;rw[hl];rfl
theorem X0:laidOutB prog=true:=by kernel_rfl
theorem q05:(89:ay)<prog.types.size:=of_decide_eq_true (by kernel_rfl)
theorem XZ:(match prog.underlying 89 with|some (.array _ _)|some (.struct _)=>true|_=>false)=true:=by rw[underlying89]
theorem Cr:Keyed prog 89:=Keyed.of_law (deep_law_laid X0 (m:=3) (by omega) q05 (by kernel_rfl) XZ)
theorem Uf {k h' k':Nat} (hh:h<4) (hk:k<4) (Bl:h'<4) (ol:k'<4) (e:pk h k=pk h' k'):h=h'/\k=k':=by
 have:=Cr.inj (Ch hh hk) (e▸Ch Bl ol);simp only[pkV,Value.agg.injEq]at this;have e2:=congrArg Array.toList this;simp at e2;omega
theorem q95 {k:Nat} (hh:h<4) (hk:k<4):WideAt.IsKeyLit (pk h k):=Cr.key (Ch hh hk)
def Rp:ac->Option (DataW Unit×List bP)
 |.pointer none=>some (.lit .nil,[])
 |.pointer (some ⟨g,0,none⟩)=>some (.lit (.int .i64 g),[])
 |_=>none
def pd:Option Nat->DataW Unit
 |none=>.lit .nil
 |some g=>.lit (.int .i64 g)
theorem q8o (o:Option Nat):Rp (ptr o)=some (pd o,[]):=by cases o<;>rfl
theorem q8n {v:ac} {o:Option Nat} {ps:List bP} (h:Rp v=some (pd o,ps)):v=ptr o:=by
 unfold Rp at h;split at h
 ·cases o with
  |none=>rfl
  |some g=>simp[pd]at h
 ·cases o with
  |none=>simp[pd]at h
  |some g=>simp only[pd,aY,aS,DataW.lit.injEq,Lit.int.injEq,true_and,Int.natCast_inj]at h;rw[h.1];rfl
 ·cases h
def jI (w:aa) (sm:Nat) (f:Nat->Nat->Option Nat):Prop:= ∃n D,w.ownsMap prog 89 Rp sm n D/\(∀h k,h<4->k<4->D.atKey (pk h k) (pd none)=pd (f h k))/\∀kl,Maps.has D kl=true->∃h k,h<4/\k<4/\kl=pk h k/\(f h k).isSome=true
def ze {α:Type} (f:Nat->Nat->Option α) (h k:Nat) (o:Option α):Nat->Nat->Option α:=λa b=>if a=h/\b=k then o else f a b
theorem vw {α:Type} (f:Nat->Nat->Option α) (h k:Nat) (o:Option α):ze f h k o h k=o:=by unfold ze;rw[if_pos ⟨rfl,rfl⟩]
theorem zi {α:Type} {f:Nat->Nat->Option α} {k:Nat} {o:Option α} (e:¬(a=h/\b=k)):ze f h k o a b=f a b:=by unfold ze;rw[if_neg e]
section
variable {w w':aa} {sm h k:Nat} {f:Nat->Nat->Option Nat}
theorem jI.lt (m:jI w sm f):sm<w.heap.size:=by
 obtain⟨n,D,ho,_⟩:=m;exact ho.lt
theorem jI.map (m:jI w sm f):∃es ck,w.heap[sm]?=some (.map es ck):=by
 obtain⟨n,D,⟨es,ck,hb,_⟩,_⟩:=m;exact⟨es,ck,hb⟩
theorem jI.block (m:jI w sm f) (e:w'.heap[sm]?=w.heap[sm]?):jI w' sm f:=by
 obtain⟨n,D,⟨es,ck,hb,r⟩,m2,m3⟩:=m;exact⟨n,D,⟨es,ck,e.trans hb,r⟩,m2,m3⟩
theorem jI.ty (m:jI w sm f) {cur:Array ac} {ty:ay} (hb:w.heap[b]?=some (.cells cur ty (0,0))):b≠sm:=λe=>by
 obtain⟨es,ck,h⟩:=m.map;rw[e,h]at hb;cases hb
theorem jI.q0r (hb:w.heap[sm]?=some (.map #[] 0)):jI w sm (λ_ _=>none):=⟨0,.map [],⟨#[],0,hb,⟨by simp,MapKept.stamped_empty 0,by simp⟩,jd _,rfl⟩,λh k _ _=>rfl,λkl h=>by simp[Maps.has]at h⟩
theorem jI.few (m:jI w sm f):∃D,w.ownsMap prog 89 Rp sm 16 D/\(∀h k,h<4->k<4->D.atKey (pk h k) (pd none)=pd (f h k))/\∀kl,Maps.has D kl=true->∃h k,h<4/\k<4/\kl=pk h k/\(f h k).isSome=true:=by
 obtain⟨n,D,ho,m2,m3⟩:=m;refine⟨D,?_,m2,m3⟩;obtain⟨gm,e0,hp,uS⟩:=ho.entries Cr;obtain⟨es,ck,hb,F,hs,hD⟩:=ho;refine⟨es,ck,hb,F,?_,hD⟩;have hl:es.size=gm.length:=by
  rw[e0]at hD;injection hD with hD;rw[hD,length_sorted];simp
 rw[hl,<-List.length_map (f:=Prod.fst)];have iU:gm.map Prod.fst ⊆ (bR 4).flatMap λh=>(bR 4).map λk=>pk h k:=λl hl=>by
  obtain⟨p,Ja,rfl⟩:=List.mem_map.1 hl;obtain⟨h,k,hh,hk,e,_⟩:=m3 p.1 (by rw[e0,Maps.has_eq,List.any_eq_true];exact⟨p,Ja,WideAt.sameKey_self (uS p Ja)⟩);rw[e];exact List.mem_flatMap.2 ⟨h,br.2 hh,List.mem_map.2 ⟨k,br.2 hk,rfl⟩⟩
 have:=List.Nodup.length_le_of_subset ((List.pairwise_map.2 hp:(gm.map Prod.fst).Pairwise (· ≠·))) iU;exact this
theorem q7c (w:aa):(zeroValue 90).run prog w=.ok (.pointer none) w:=by kernel_rfl
theorem jI.look (m:jI w sm f) (hh:h<4) (hk:k<4):(Instr.lookup 68 (.map (some sm)) (pkV h k) false).run prog w=.ok (ptr (f h k)) w:=by
 obtain⟨n,D,ho,m2,_⟩:=m;obtain⟨v,ps,eT,hv⟩:=ho.lookup Cr underlying68 (q7c w) (zd:=pd none) (zp:=[]) rfl (Ch hh hk);rw[m2 h k hh hk]at hv;rw[eT,q8n hv]
theorem jI.put (m:jI w sm f) (hh:h<4) (hk:k<4) (g:Nat):∃w',(Instr.mapUpdate 68 (.map (some sm)) (pkV h k) (.pointer (some ⟨g,0,none⟩))).run prog w=.ok () w'/\jI w' sm (ze f h k (some g))/\But (· =sm) w w':=by
 obtain⟨D,ho,m2,m3⟩:=m.few;obtain⟨w',eT,mq,hg⟩:=ho.update Cr underlying68 (by decide) (Ch hh hk) (q8o (some g));refine⟨w',eT,⟨_,_,mq,λa b ha hb=>?_,λkl rV=>?_⟩,⟨hg.size,λi hi hb=>hg.block i hi (by simpa using hb),hg.os,hg.output⟩⟩
 ·by_cases e:a=h/\b=k
  ·obtain⟨rfl,rfl⟩:=e;rw[vw,Maps.atKey_put_same ho.isMap (q95 ha hb)]
  ·rw[zi e,Maps.atKey_put_other (λe2=>e (Uf ha hb hh hk e2)),m2 a b ha hb]
 ·by_cases e:kl=pk h k
  ·exact⟨h,k,hh,hk,e,by rw[vw];rfl⟩
  ·rw[Maps.has_put_other e]at rV;obtain⟨a,b,ha,hb,e2,e3⟩:=m3 kl rV;exact⟨a,b,ha,hb,e2,by rw[zi (λe4=>e (by rw[e2,e4.1,e4.2]))];exact e3⟩
theorem jI.del (m:jI w sm f) (hh:h<4) (hk:k<4) (ty:ay):∃w',(Builtin.delete_ #[68,89] ty #[.map (some sm),pkV h k]).run prog w=.ok (.tuple #[]) w'/\jI w' sm (ze f h k none)/\But (· =sm) w w':=by
 obtain⟨n,D,ho,m2,m3⟩:=m;obtain⟨w',eT,mq,⟨es,ck,gY,ck',hb,rfl⟩⟩:=World.ownsMap.drop ho Cr underlying68 (Ch hh hk) ty;refine⟨_,eT,⟨_,_,mq,λa b ha hb=>?_,λkl rV=>?_⟩,⟨by simp[ChangeMaps.setBlock],λi hi hn=>ChangeMaps.heap_setBlock_other hb _ hn,rfl,rfl⟩⟩
 ·by_cases e:a=h/\b=k
  ·obtain⟨rfl,rfl⟩:=e;rw[vw,Maps.atKey_del_same]
  ·rw[zi e,Maps.atKey_del_other (λe2=>e (Uf ha hb hh hk e2)),m2 a b ha hb]
 ·by_cases e:kl=pk h k
  ·rw[e,Maps.has_del_same]at rV;cases rV
  ·rw[Maps.has_del_other e]at rV;obtain⟨a,b,ha,hb,e2,e3⟩:=m3 kl rV;exact⟨a,b,ha,hb,e2,by rw[zi (λe4=>e (by rw[e2,e4.1,e4.2]))];exact e3⟩
end
theorem Y9 (w:aa) (g j:Nat) {cur:Array ac} {e:ay} {fr:Nat×Nat} (v:ac) (h:w.heap[g]?=some (.cells cur e fr)):(w.setCell ⟨g,j,none⟩ v).heap[g]?=some (.cells (cur.setIfInBounds j v) e fr):=by
 simp[World.setCell,Array.getElem?_modify,h]
theorem Tt (g:Nat):∀(vs:List ac) (o:Nat) (w:aa) (cur:Array ac) (e:ay) (fr:Nat×Nat),w.heap[g]?=some (.cells cur e fr)->o+vs.length<=cur.size->
  ∃mE,(w.setCells g o vs).heap[g]?=some (.cells mE e fr)/\mE.size=cur.size/\∀k,mE[k]?=if o<=k/\k<o+vs.length then vs[k-o]? else cur[k]?
 |[],o,w,cur,e,fr,h,hl=>⟨cur,h,rfl,λk=>by rw[if_neg (by rw[bN];omega)]⟩
 |v::r,o,w,cur,e,fr,h,hl=>by
  simp only[aP]at hl;obtain⟨mE,a1,a2,a3⟩:=Tt g r (o+1) _ _ e fr (Y9 w g o v h) (by simp;omega);refine⟨mE,a1,by simpa using a2,λk=>?_⟩;rw[a3 k];simp only[aP];by_cases hk:k=o
  ·subst hk;rw[if_neg (by omega),if_pos (by omega),xsl (by omega),Nat.sub_self];rfl
  ·rw[xne (by omega)];by_cases h1:o+1<=k/\k<o+1+r.length
   ·rw[if_pos h1,if_pos (by omega),show k-o=(k-(o+1))+1 by omega,List.getElem?_cons_succ]
   ·rw[if_neg h1,if_neg (by omega)]
theorem setCells_size (g:Nat):∀(vs:List ac) (o:Nat) (w:aa),(w.setCells g o vs).heap.size=w.heap.size/\(w.setCells g o vs).tape=w.tape
 |[],o,w=>⟨rfl,rfl⟩
 |v::r,o,w=>by
  obtain⟨h1,h2⟩:=setCells_size g r (o+1) (w.setCell ⟨g,o,none⟩ v);exact⟨h1.trans (by simp),h2.trans rfl⟩
def jr (w:aa) (e:ay) (size:Nat) (v:ac) (n:Nat) (xs:List ac):Prop:=xs.length=n*size/\((v=.slice none 0 0/\n=0)\/∃g off cap cur,v=.slice (some ⟨g,off,none⟩) n cap/\w.heap[g]?=some (.cells cur e (0,0))/\n<=cap/\cap<=az/\off+cap*size<=cur.size/\∀j u,xs[j]?=some u->cur[off+j]?=some u)
section
variable {w w':aa} {e:ay} {size n:Nat} {v:ac} {xs:List ac}
theorem jr.of {base:Nat} (h:w.ownsRow base e size v n xs):jr w e size v n xs:=by
 refine⟨h.1,h.2.imp id ?_⟩;rintro⟨g,cap,cur,rfl,_,h2,h3,h4,h5,h6⟩;refine⟨g,0,cap,cur,rfl,h2,h3,h4,by rw[h5];omega,λj u hu=>?_⟩;rw[<-h6,List.getElem?_take]at hu;split at hu
 ·simpa using hu
 ·cases hu
theorem jr.block (h:jr w e size v n xs) (k:∀g,v.ownBlock=some g->w'.heap[g]?=w.heap[g]?):jr w' e size v n xs:=by
 refine⟨h.1,h.2.imp id ?_⟩;rintro⟨g,off,cap,cur,rfl,h2,h3⟩;exact⟨g,off,cap,cur,rfl,(k g rfl).trans h2,h3⟩
theorem jr.lt (h:jr w e size v n xs) {g:Nat} (hg:v.ownBlock=some g):g<w.heap.size:=by
 rcases h.2 with⟨rfl,_⟩|⟨g',off,cap,cur,rfl,h2,_⟩
 ·cases hg
 ·cases hg;exact(kg h2).1
theorem jr.ty (h:jr w e size v n xs) {g:Nat} (hg:v.ownBlock=some g):∃cur,w.heap[g]?=some (.cells cur e (0,0)):=by
 rcases h.2 with⟨rfl,_⟩|⟨g',off,cap,cur,rfl,h2,_⟩
 ·cases hg
 ·cases hg;exact⟨cur,h2⟩
theorem jr.shape (h:jr w e size v n xs):∃sa cp,v=.slice sa n cp/\n<=cp/\cp<=az:=by
 rcases h.2 with⟨rfl,rfl⟩|⟨g',off,cap,cur,rfl,_,h3,h4,_⟩
 ·exact⟨_,_,rfl,jd _,by decide⟩
 ·exact⟨_,_,rfl,h3,h4⟩
theorem jr.cells {g off m cap:Nat} (h:jr w e size (.slice (some ⟨g,off,none⟩) m cap) n xs):∀j u,xs[j]?=some u->w.cell? ⟨g,off+j,none⟩=some u:=λj u hu=>by
 rcases h.2 with⟨e,_⟩|⟨g',off',cap',cur,e,h2,h3,h4,h5,h6⟩
 ·cases e
 ·cases e;simp[ag,h2,h6 j u hu]
theorem jr.cut {sa:Option Addr} {cp:Nat} {nW:Option Addr} (h:jr w e size (.slice sa n cp) n xs) (hi:i<=n) (vM:∀g off,sa=some ⟨g,off,none⟩->nW=if cp=i then some ⟨g,off,none⟩else some ⟨g,off+i*size,none⟩) (hn:sa=none->nW=none):jr w e size (.slice nW (n-i) (cp-i)) (n-i) (xs.drop (i*size)):=by
 refine⟨by rw[aQ,h.1,Nat.sub_mul],?_⟩;rcases h.2 with⟨e1,rfl⟩|⟨g,off,cap,cur,e1,h2,h3,h4,h5,h6⟩
 ·cases e1;exact .inl ⟨by rw[hn rfl];simp,by omega⟩
 ·injection e1 with q1 q2 q3;subst q1 q3;refine .inr ?_;by_cases hc:cp=i
  ·have xC:n=i:=by omega
   refine⟨g,off,0,cur,?_,h2,by omega,xzl _,?_,λj u hu=>?_⟩
   ·rw[vM g off rfl,if_pos hc,hc,Nat.sub_self]
   ·have:=xzl (cp*size);omega
   ·rw[aM]at hu;have:=(ai.1 hu).1;rw[h.1,xC]at this;omega
  ·refine⟨g,off+i*size,cp-i,cur,by rw[vM g off rfl,if_neg hc],h2,by omega,by omega,?_,λj u hu=>?_⟩
   ·rw[Nat.sub_mul];have:i*size<=cp*size:=aG _ (by omega);omega
   ·rw[aM]at hu;rw[Nat.add_assoc];exact h6 _ u hu
end
section
variable {P:Program} (w:aa)
theorem qll (t ty e:ay) (i:TypeInfo) (z:ac) (size bytes:Nat) (ht:P.underlying t=some (.slice e)) (hi:P.info? e=some i) (hz:i.zero=some z)
  (oG:i.size=size) (zB:i.bytes=bytes) (EN:z.cells.size=size) (v:ac) (n:Nat) (xs:List ac) (fE:jr w e size v n xs)
  (ad:Addr) (c:Nat) (news:List ac) (hl:news.length=size) (jD:∀j u,news[j]?=some u->w.cell? (ad.add j)=some u) (h1:∀u∈news,u.oneCell'=true)
  (Du:n+1<=az) (iW:(n+1)*bytes<=140737488355328):
  ∃g off cap w',(Builtin.append_ #[t,t] ty #[v,.slice (some ad) 1 c]).run P w=.ok (.slice (some ⟨g,off,none⟩) (n+1) cap) w'/\
   jr w' e size (.slice (some ⟨g,off,none⟩) (n+1) cap) (n+1) (xs++news)/\w.grownBy w' v.ownBlock/\(v.ownBlock=some g\/g=w.heap.size):=by
 subst oG;subst zB;have hlen:(xs++news).length=(n+1)*i.size:=by rw[aj,fE.1,hl,Nat.add_mul,Nat.one_mul]
 have hs:_root_.Go.Src P i.size t (.slice (some ad) 1 c) 1 news w:=_root_.Go.Src.ofSlice w ht ad 1 c news (by omega) jD h1;have grow:∀(base:Option Addr) (old:Nat),old<n+1->(Builtin.firstCells i.size n (.slice base n old)).run P w.drew=.ok xs.toArray w.drew->∃g off cap w',(Builtin.append_ #[t,t] ty #[.slice base n old,.slice (some ad) 1 c]).run P w=.ok (.slice (some ⟨g,off,none⟩) (n+1) cap) w'/\
   jr w' e i.size (.slice (some ⟨g,off,none⟩) (n+1) cap) (n+1) (xs++news)/\w.grownBy w' (Value.ownBlock (.slice base n old))/\(Value.ownBlock (.slice base n old)=some g\/g=w.heap.size):=λbase old ho hold=>by
  have hr:=run_append_grow_src (P:=P) w t t ty e i z ht hi hz base n old xs hold (.slice (some ad) 1 c) 1 news hs ho (by simp only[az]at Du;omega) (growslice_fits ho iW);have mK:=grownCap_ge w (n+1) old e;have vR:=grownCap_le_maxLen w (n+1) old e Du;refine⟨_,_,_,_,hr,⟨hlen,.inr ⟨w.heap.size,0,_,_,rfl,_root_.Go.heap_alloc_new w.drew _,mK,vR,?_,λj u hu=>?_⟩⟩,⟨rfl,rfl,rfl,by simp,λk hk _=>_root_.Go.heap_alloc_old w.drew _ hk⟩,.inr rfl⟩
  ·simp only[Array.size_append,List.size_toArray,size_zeroCells,EN,hlen,<-Nat.add_mul];rw[show n+1+(grownCap w (n+1) old e-(n+1))=grownCap w (n+1) old e by omega];omega
  ·rw[aN,Array.getElem?_append_left (by simpa using(ai.1 hu).1)];simpa using hu
 rcases fE.2 with⟨rfl,rfl⟩|⟨g,off,cap,cur,rfl,hg,Dj,vR,gI,hx⟩
 ·have UR:xs=[]:=List.eq_nil_of_length_eq_zero (by simpa using fE.1);exact grow none 0 (by omega) (by rw[UR];exact run_firstCells_none w.drew i.size 0 0 0)
 ·by_cases iQ:n+1<=cap
  ·have qE:off+n*i.size+news.length<=cur.size:=by
    have:(n+1)*i.size<=cap*i.size:=aG _ iQ;rw[Nat.add_mul,Nat.one_mul]at this;omega
   have hr:=run_append_room_src (P:=P) w t t ty e i ht hi g off n cap (.slice (some ad) 1 c) 1 news hs iQ (λj hj=>by
    have:off+n*i.size+j<cur.size:=by omega
    simp[ag,hg,this]) (λj hj=>by simp[aw,hg])
   obtain⟨mE,a1,a2,a3⟩:=Tt g news (off+n*i.size) w cur e (0,0) hg qE;have hxl:=fE.1;refine⟨g,off,cap,_,hr,⟨hlen,.inr ⟨g,off,cap,mE,rfl,a1,iQ,vR,by rw[a2];exact gI,λj u hu=>?_⟩⟩,⟨World.os_setCells w g _ news,?_,World.output_setCells w g _ news,?_,λk hk eG=>World.heap_setCells_other w g _ news hk λe=>eG (by rw[e];rfl)⟩,.inl rfl⟩
   ·rw[a3];by_cases hj:j<xs.length
    ·rw[if_neg (by omega)];rw[List.getElem?_append_left hj]at hu;exact hx j u hu
    ·rw[List.getElem?_append_right (by omega)]at hu;have:=(ai.1 hu).1;rw[if_pos (by omega),show off+j-(off+n*i.size)=j-xs.length by omega];exact hu
   ·exact(setCells_size g news _ w).2
   ·exact Nat.le_of_eq (setCells_size g news _ w).1.symm
  ·have hold:(Builtin.firstCells i.size n (.slice (some ⟨g,off,none⟩) n cap)).run P w.drew=.ok xs.toArray w.drew:=run_firstCells_some w.drew i.size n ⟨g,off,none⟩ n cap xs fE.1 λj u hu=>by
    rw[aI];exact(fE.cells j u hu)
   exact grow _ cap (by omega) hold
end
section
variable {P:Program} (w:aa)
theorem Z7 {o:Oper} {a:Act} {K:Act->aa->Prop} {Q:Exit->Act->aa->Prop} (s x:Operand) (t:ay)
  (ho:o.op=.call {callee:=.builtin .append,args:=#[s,x],argTypes:=#[t,t]})
  (e:ay) (i:TypeInfo) (z:ac) (size bytes:Nat) (ht:P.underlying t=some (.slice e)) (hi:P.info? e=some i) (hz:i.zero=some z)
  (oG:i.size=size) (zB:i.bytes=bytes) (EN:z.cells.size=size)
  (v:ac) (n:Nat) (xs:List ac) (hs:a.eval s=v) (fE:jr w e size v n xs)
  (ad:Addr) (c:Nat) (news:List ac) (hx:a.eval x=.slice (some ad) 1 c) (hl:news.length=size) (jD:∀j u,news[j]?=some u->w.cell? (ad.add j)=some u) (h1:∀u∈news,u.oneCell'=true)
  (Du:n+1<=az) (iW:(n+1)*bytes<=140737488355328) (H:Nat) (hH:w.heap.size=H)
  (h:∀g off cap w',jr w' e size (.slice (some ⟨g,off,none⟩) (n+1) cap) (n+1) (xs++news)->w.grownBy w' v.ownBlock->(v.ownBlock=some g\/g=H)->K (a.put o.dst (.slice (some ⟨g,off,none⟩) (n+1) cap)) w'):o.wp P a w K Q:=by
 obtain⟨g,off,cap,w',hr,h2,h3,h4⟩:=qll (P:=P) w t o.type e i z size bytes ht hi hz oG zB EN v n xs fE ad c news hl jD h1 Du iW;rw[hH]at h4;unfold Oper.wp execOp;simp only[ho,resolve,invoke,builtin,Sem.run_bind,Sem.run_pure,Result.andThen_ok,List.map_toArray,cf,co,hs,hx,hr];exact h g off cap w' h2 h3 h4
theorem qjx {ops:Array Oper} {o:Oper} {a:Act} {K:Act->aa->Prop} {Q:Exit->Act->aa->Prop} {E:Prop} (Fe:o.guard=none) (s x:Operand) (t:ay)
  (ho:o.op=.call {callee:=.builtin .append,args:=#[s,x],argTypes:=#[t,t]})
  (e:ay) (i:TypeInfo) (z:ac) (size bytes:Nat) (ht:P.underlying t=some (.slice e)) (hi:P.info? e=some i) (hz:i.zero=some z)
  (oG:i.size=size) (zB:i.bytes=bytes) (EN:z.cells.size=size)
  (v:ac) (n:Nat) (xs:List ac) (hs:a.eval s=v) (fE:jr w e size v n xs)
  (ad:Addr) (c:Nat) (news:List ac) (hx:a.eval x=.slice (some ad) 1 c) (hl:news.length=size) (jD:∀j u,news[j]?=some u->w.cell? (ad.add j)=some u) (h1:∀u∈news,u.oneCell'=true)
  (Du:n+1<=az) (iW:(n+1)*bytes<=140737488355328) (H:Nat) (hH:w.heap.size=H)
  (h:∀g off cap w',jr w' e size (.slice (some ⟨g,off,none⟩) (n+1) cap) (n+1) (xs++news)->w.grownBy w' v.ownBlock->(v.ownBlock=some g\/g=H)->K (a.put o.dst (.slice (some ⟨g,off,none⟩) (n+1) cap)) w'):
  if Region.wanted o (yielded ops a.tmps)=true then Oper.wp P o a w K Q else E:=by
 have hw:Region.wanted o (yielded ops a.tmps)=true:=by simp[Region.wanted,Fe]
 rw[if_pos hw];exact Z7 w s x t ho e i z size bytes ht hi hz oG zB EN v n xs hs fE ad c news hx hl jD h1 Du iW H hH h
end
structure Chg where
 k:Bs
 v:Bs
 g:Bool
structure Mv where
 id:Nat
 fr:Nat
 to:Nat
 ps:KV
 cs:List Chg
 sent:Bs
 n:Nat
 kind:Nat
 parts:Nat
 sealed:Bool
structure Sg where
 id:Nat
 next:Nat
 kv:KV
 done:Bool
structure St where
 hosts:Nat
 ow:Nat->Nat
 kv:Nat->KV
 mv:Nat->Option Mv
 sg:Nat->Nat->Option Sg
 id:Nat
 ep:Nat
def jM (l:List Chg):List ac:=l.flatMap λc=>[sv c.k,sv c.v,.bool c.g]
structure PA where
 cl:Nat
 db:Nat->Nat
 mb:Nat->Nat
 mp:Nat->Option Nat
 pv:Nat->ac
 cv:Nat->ac
 ld:Nat->ByteArray
 sm:Nat
 sP:Nat->Nat->Nat×Nat×Nat
def ji (A:PA) (s:St):Array ac:=
 #[.int .i64 s.hosts,.int .i64 (s.ow 0),ptr (some (A.db 0)),ptr (A.mp 0),.int .i64 (s.ow 1),ptr (some (A.db 1)),ptr (A.mp 1),.int .i64 (s.ow 2),ptr (some (A.db 2)),ptr (A.mp 2),.int .i64 (s.ow 3),ptr (some (A.db 3)),ptr (A.mp 3),.map (some A.sm),.int .i64 s.id,.int .i64 s.ep]
def qf (k:Nat) (pv cv:ac) (ld:ByteArray) (m:Mv):Array ac:=
 #[.int .i64 m.id,.int .i64 m.fr,.int .i64 m.to,pv,cv,.int .u8 m.kind,.int .i64 k,.int .i64 m.id,.int .i64 m.n,.string ld,sv m.sent,.int .i64 m.parts,.bool m.sealed]
def sF (w:aa) (v:ac) (l:KV):Prop:=jr w 62 2 v l.length (flat l)
def oZ (w:aa) (v:ac) (l:List Chg):Prop:=jr w 109 3 v l.length (jM l)
def Ce (w:aa) (v:ac) (l:List Chg):Prop:=w.ownsRow 0 109 3 v l.length (jM l)
def kE (w:aa) (F:Nat->Prop) (A:PA) (i:Nat):Option Mv->Prop
 |none=>A.mp i=none/\(A.cv i).ownBlock=none
 |some m=>∃g,A.mp i=some g/\F g/\w.heap[g]?=some (.cells (qf i (A.pv i) (A.cv i) (A.ld i) m) 80 (0,0))/\sF w (A.pv i) m.ps/\oZ w (A.cv i) m.cs/\(∀b,(A.pv i).ownBlock=some b->F b)/\∀b,(A.cv i).ownBlock=some b->F b
structure iB (w:aa) (sb db mb id next:Nat) (done:Bool) (kv:KV):Prop where
 s:w.heap[sb]?=some (.cells #[.int .i64 id,.int .i64 next,.pointer (some ⟨db,0,none⟩),.bool done] 92 (0,0))
 d:w.heap[db]?=some (.cells #[.map (some mb)] 130 (0,0))
 m:jh w mb kv
structure tQ (w:aa) (F:Nat->Prop) (A:PA) (sg:Nat->Nat->Option Sg):Prop where
 f:F A.sm
 m:jI w A.sm λh k=>(sg h k).map λ_=>(A.sP h k).1
 e:∀h k x,h<4->k<4->sg h k=some x->(F (A.sP h k).1/\F (A.sP h k).2.1/\F (A.sP h k).2.2)/\iB w (A.sP h k).1 (A.sP h k).2.1 (A.sP h k).2.2 x.id x.next x.done x.kv
 i:∀h k a b,h<4->k<4->a<4->b<4->(sg h k).isSome=true->(sg a b).isSome=true->(A.sP h k).1=(A.sP a b).1\/(A.sP h k).2.2=(A.sP a b).2.2->h=a/\k=b
 n:∀h k,h<4->k<4->(sg h k).isSome=true->A.sm≠(A.sP h k).2.2/\∀i,i<4->A.mb i≠(A.sP h k).2.2
structure jm (w:aa) (F:Nat->Prop) (A:PA) (s:St):Prop where
 cl:F A.cl/\w.heap[A.cl]?=some (.cells (ji A s) 70 (0,0))
 db:∀i,i<4->F (A.db i)/\w.heap[A.db i]?=some (.cells #[.map (some (A.mb i))] 130 (0,0))
 mb:∀i,i<4->F (A.mb i)/\jh w (A.mb i) (s.kv i)
 mbi:∀i j,i<4->j<4->A.mb i=A.mb j->i=j
 mv:∀i,i<4->kE w F A i (s.mv i)
 mpi:∀i j g,i<4->j<4->A.mp i=some g->A.mp j=some g->i=j
 cvi:∀i j g,i<4->j<4->(A.cv i).ownBlock=some g->(A.cv j).ownBlock=some g->i=j
 stg:tQ w F A s.sg
 smb:∀i,i<4->A.mb i≠A.sm
section
variable {w w':aa} {F F':Nat->Prop} {A:PA} {s:St}
theorem sF.block {v:ac} {l:KV} (h:sF w v l) (k:∀g,v.ownBlock=some g->w'.heap[g]?=w.heap[g]?):sF w' v l:=jr.block h k
theorem oZ.block {v:ac} {l:List Chg} (h:oZ w v l) (k:∀g,v.ownBlock=some g->w'.heap[g]?=w.heap[g]?):oZ w' v l:=jr.block h k
theorem Ce.block {v:ac} {l:List Chg} (h:Ce w v l) (k:∀g,v.ownBlock=some g->w'.heap[g]?=w.heap[g]?):Ce w' v l:=je h k
theorem kE.frame {m:Option Mv} (h:kE w F A i m) (k:∀b,F b->w'.heap[b]?=w.heap[b]?):kE w' F A i m:=by
 cases m with
 |none=>exact h
 |some m=>
  obtain⟨g,h1,h2,h3,h4,h5,h6,h7⟩:=h;exact⟨g,h1,h2,(k g h2).trans h3,h4.block λb hb=>k b (h6 b hb),h5.block λb hb=>k b (h7 b hb),h6,h7⟩
theorem kE.mono {m:Option Mv} (h:kE w F A i m) (k:∀b,F b->F' b):kE w F' A i m:=by
 cases m with
 |none=>exact h
 |some m=>
  obtain⟨g,h1,h2,h3,h4,h5,h6,h7⟩:=h;exact⟨g,h1,k _ h2,h3,h4,h5,λb hb=>k b (h6 b hb),λb hb=>k b (h7 b hb)⟩
theorem iB.block {sb id next:Nat} {done:Bool} {kv:KV} (h:iB w sb db mb id next done kv) (k:∀b,b=sb\/b=db\/b=mb->w'.heap[b]?=w.heap[b]?):iB w' sb db mb id next done kv:=⟨(k _ (.inl rfl)).trans h.s,(k _ (.inr (.inl rfl))).trans h.d,h.m.block (k _ (.inr (.inr rfl)))⟩
theorem tQ.frame {sg:Nat->Nat->Option Sg} (h:tQ w F A sg) (k:∀b,F b->w'.heap[b]?=w.heap[b]?) (hF:∀b,F b->F' b):tQ w' F' A sg:=
 ⟨hF _ h.f,h.m.block (k _ h.f),λa b x ha hb hx=>by
  obtain⟨⟨h1,h2,h3⟩,h4⟩:=h.e a b x ha hb hx
  exact⟨⟨hF _ h1,hF _ h2,hF _ h3⟩,h4.block λq hq=>k q (by rcases hq with rfl|rfl|rfl<;>assumption)⟩,h.i,h.n⟩
theorem tQ.keep {sg:Nat->Nat->Option Sg} {C:PA} (h:tQ w F A sg) (kT:∀(b:Nat) (cur:Array ac) (ty:ay),w.heap[b]?=some (Obj.cells cur ty (0,0))->ty=92\/ty=130->w'.heap[b]?=w.heap[b]?)
  (kM:∀b,(∃es ck,w.heap[b]?=some (Obj.map es ck))->(b=A.sm\/∃x y,x<4/\y<4/\(sg x y).isSome=true/\b=(A.sP x y).2.2)->w'.heap[b]?=w.heap[b]?) (hF:∀b,F b->F' b) (e1:C.sm=A.sm) (e2:C.sP=A.sP) (e3:C.mb=A.mb):tQ w' F' C sg:=by
 refine⟨e1▸hF _ h.f,?_,λa b x ha hb hx=>?_,by rw[e2];exact h.i,by rw[e1,e2,e3];exact h.n⟩
 ·rw[e1,e2];exact h.m.block (kM _ h.m.map (.inl rfl))
 ·rw[e2];obtain⟨⟨h1,h2,h3⟩,h4⟩:=h.e a b x ha hb hx;obtain⟨es,ck,fP,_⟩:=h4.m;exact⟨⟨hF _ h1,hF _ h2,hF _ h3⟩,(kT _ _ _ h4.s (.inl rfl)).trans h4.s,(kT _ _ _ h4.d (.inr rfl)).trans h4.d,h4.m.block (kM _ ⟨es,ck,fP⟩ (.inr ⟨a,b,ha,hb,by rw[hx];rfl,rfl⟩))⟩
theorem tQ.lts {sg:Nat->Nat->Option Sg} (h:tQ w F A sg):tQ w (λb=>F b/\b<w.heap.size) A sg:=
 ⟨⟨h.f,h.m.lt⟩,h.m,λa b x ha hb hx=>by
  obtain⟨⟨h1,h2,h3⟩,h4⟩:=h.e a b x ha hb hx
  exact⟨⟨⟨h1,(kg h4.s).1⟩,⟨h2,(kg h4.d).1⟩,⟨h3,h4.m.lt⟩⟩,h4⟩,h.i,h.n⟩
theorem jm.frame (h:jm w F A s) (k:∀b,F b->w'.heap[b]?=w.heap[b]?):jm w' F A s:=
 ⟨⟨h.cl.1,(k _ h.cl.1).trans h.cl.2⟩,λi hi=>⟨(h.db i hi).1,(k _ (h.db i hi).1).trans (h.db i hi).2⟩,λi hi=>⟨(h.mb i hi).1,(h.mb i hi).2.block (k _ (h.mb i hi).1)⟩,h.mbi,λi hi=>(h.mv i hi).frame k,h.mpi,h.cvi,h.stg.frame k λ_ h=>h,h.smb⟩
theorem jm.mono (h:jm w F A s) (k:∀b,F b->F' b):jm w F' A s:=
 ⟨⟨k _ h.cl.1,h.cl.2⟩,λi hi=>⟨k _ (h.db i hi).1,(h.db i hi).2⟩,λi hi=>⟨k _ (h.mb i hi).1,(h.mb i hi).2⟩,h.mbi,λi hi=>(h.mv i hi).mono k,h.mpi,h.cvi,h.stg.frame (λ_ _=>rfl) k,h.smb⟩
theorem jm.clt (h:jm w F A s):A.cl<w.heap.size:=(kg h.cl.2).1
theorem kE.lt {m:Option Mv} (h:kE w F A i m):kE w (λb=>F b/\b<w.heap.size) A i m:=by
 cases m with
 |none=>exact h
 |some m=>
  obtain⟨g,h1,h2,h3,h4,h5,h6,h7⟩:=h;exact⟨g,h1,⟨h2,(kg h3).1⟩,h3,h4,h5,λb hb=>⟨h6 b hb,jr.lt h4 hb⟩,λb hb=>⟨h7 b hb,jr.lt h5 hb⟩⟩
theorem jm.lts (h:jm w F A s):jm w (λb=>F b/\b<w.heap.size) A s:=
 ⟨⟨⟨h.cl.1,h.clt⟩,h.cl.2⟩,λi hi=>⟨⟨(h.db i hi).1,(kg (h.db i hi).2).1⟩,(h.db i hi).2⟩,λi hi=>⟨⟨(h.mb i hi).1,(h.mb i hi).2.lt⟩,(h.mb i hi).2⟩,h.mbi,λi hi=>(h.mv i hi).lt,h.mpi,h.cvi,h.stg.lts,h.smb⟩
theorem jm.below (h:jm w F A s) (hb:aq w.heap.size w w'):jm w' F A s:=(h.lts.frame λb fP=>hb.block b fP.2).mono λ_ h=>h.1
theorem jm.cells (h:jm w F A s) (j:Nat) (v:ac) (hj:(ji A s)[j]?=some v):w.cell? ⟨A.cl,j,none⟩=some v/\w.frozen? ⟨A.cl,j,none⟩=false:=⟨by simp[ag,h.cl.2,hj],by simp[aw,h.cl.2]⟩
theorem Ia (A:PA) (s:St) (i:Nat) (hi:i<4):(ji A s)[1+i*3]?=some (.int .i64 (s.ow i))/\(ji A s)[1+i*3+1]?=some (ptr (some (A.db i)))/\(ji A s)[1+i*3+2]?=some (ptr (A.mp i)):=by
 match i,hi with
 |0,_|1,_|2,_|3,_=>exact⟨rfl,rfl,rfl⟩
theorem jm.part (h:jm w F A s) (i:Nat) (hi:i<4):qN w A.cl i (A.db i) (A.mb i) (mpA (A.mp i)) (s.kv i):=by
 obtain⟨_,h2,h3⟩:=Ia A s i hi;exact⟨(h.cells _ _ h2).1,by rw[<-Ed];exact(h.cells _ _ h3).1,by simp[ag,(h.db i hi).2],(h.mb i hi).2⟩
end
def jk:Bs->Bs->Nat
 |a::l,b::m=>if a=b then jk l m+1 else 0
 |_,_=>0
theorem Ey:∀(l m:Bs),jk l m<=l.length/\jk l m<=m.length
 |[],m=>by simp[jk]
 |a::l,[]=>by simp[jk]
 |a::l,b::m=>by
  unfold jk;have:=Ey l m;split
  ·simp;omega
  ·simp
theorem ZW {l m:Bs} (h1:n<l.length) (h2:n<m.length) (h:jk l m=n+jk (l.drop n) (m.drop n)):(l[n]=m[n]->jk l m=n+1+jk (l.drop (n+1)) (m.drop (n+1)))/\(l[n]≠m[n]->jk l m=n):=by
 rw[am h1,am h2,jk]at h;constructor
 ·intro e;rw[if_pos e]at h;omega
 ·intro e;rw[if_neg e]at h;omega
theorem ZE {l m:Bs} (h1:l.length<=n\/m.length<=n) (h:jk l m=n+jk (l.drop n) (m.drop n)):jk l m=n:=by
 have:jk (l.drop n) (m.drop n)=0:=by
  have:=Ey (l.drop n) (m.drop n);simp only[aQ]at this;omega
 omega
section
variable {w:aa}
theorem q1u (a b:ByteArray) (ha:a.size<=140737488355328):ax prog 56 #[.string a,.string b] w λe w'=>e=.returned (.int .i64 (jk a.data.toList b.data.toList))/\aq w.heap.size w w':=by
 obtain⟨r,hr⟩:∃r,jk a.data.toList b.data.toList=r:=⟨_,rfl⟩
 rw[hr];have HR:=Hd hr;clear hr;obtain⟨mn,hmn,nR,Dk,nQ⟩:∃mn:Nat,(if b.size<a.size then(b.size:Int)else(a.size:Int))=mn/\mn<=a.size/\mn<=b.size/\(a.size<=mn\/b.size<=mn):=by
  by_cases h:b.size<a.size
  ·exact⟨b.size,by rw[if_pos h],by omega,by omega,.inr (jd _)⟩
  ·exact⟨a.size,by rw[if_neg h],by omega,by omega,.inl (jd _)⟩
 go_enter func56,ntmps56;go_wp2;go_loopw [5] (λi wr=>∃n:Nat,i=.int .i64 n/\n<=a.size/\Hid (r=n+jk (a.data.toList.drop n) (b.data.toList.drop n)/\aq w.heap.size w wr)) (λi _=>a.size-(intOf i).toNat);case atStart=>exact⟨0,rfl,xzl _,Hd ⟨by rw[<-HR.o];simp,j5 _ _⟩⟩
 case round=>
  obtain⟨n,rfl,hn,HN⟩:=hrel;by_cases hx:n<mn
  ·have x1:n<a.size:=by omega
   have x2:n<b.size:=by omega
   have g1:decide (n<mn)=true:=xdt hx;have hd:=ZW (l:=a.data.toList) (m:=b.data.toList) (n:=n) (by simpa using x1) (by simpa using x2) (by rw[HR.o];exact HN.1);go_wp2;go_quiet (fail);have gZ:=Hd (Below.drewN' HN.2 nq);generalize wr.drewN nq=V at gZ⊢;by_cases he:(a[n]'x1).toNat=(b[n]'x2).toNat
   ·have i1:(((a[n]'x1).toNat:Int)==(b[n]'x2).toNat)=true:=by simp[he]
    have Fh:a.data[n]=b.data[n]:=UInt8.toNat_inj.1 (by simpa[ao]using he);have HE:=Hd (HR.symm.trans (hd.1 (by simpa using Fh)));clear hd he Fh;go_wp2;go_roundw;case rel=>exact⟨n+1,by go_num,by omega,Hd ⟨HE.o,gZ.o⟩⟩
    case measure=>simp[intOf]<;>omega
   ·have i1:(((a[n]'x1).toNat:Int)==(b[n]'x2).toNat)=false:=by
     simp;omega
    have HE:=Hd (HR.symm.trans (hd.2 (λh=>he (by
     have h:a.data[n]=b.data[n]:=by simpa using h
     simp[ao,h]))))
    clear hd he;go_wp2;go_ret;obtain rfl:=HE.o;exact⟨rfl,gZ.o⟩
  ·have HE:=Hd (ZE (l:=a.data.toList) (m:=b.data.toList) (n:=n) (by simp;omega) (by rw[HR.o];exact HN.1));have g1:decide (n<mn)=false:=xdf hx;go_wp2;go_quiet (fail);have gZ:=Hd (Below.drewN' HN.2 nq);generalize wr.drewN nq=V at gZ⊢;go_wp2;go_ret;obtain rfl:r=n:=HR.symm.trans HE.o;exact⟨rfl,gZ.o⟩
def bsB (l:Bs):ByteArray:=⟨l.toArray⟩
theorem Au (a b:Bs):bsB a++bsB b=bsB (a++b):=by
 apply ByteArray.ext;rw[aO];unfold bsB;apply Array.ext';simp
theorem rR (a:Bs):(bsB a).size=a.length:=by
 show a.toArray.size=_;simp
theorem Qc {b:ByteArray} {l:Bs} (h:b.data.toList=l):bsB l=b:=by
 subst h;rfl
theorem yO (s:Bs) (h:s.length<16384):(zk s).length<=s.length+2:=by
 have:=vk 1 s.length (by simpa using h);unfold zk;rw[aj];omega
def yg (last k v:Bs):Bs:=ve (jk last k)++zk (k.drop (jk last k))++zk v
def zq (c:Chg):Bs:=if c.g then[2]++zk c.k else[1]++zk c.k++zk c.v
theorem Tg (last k v:Bs) (hl:last.length<=8) (hk:k.length<=8) (hv:v.length<=12):(yg last k v).length<=25:=by
 have h1:=vk 0 (jk last k) (by have:=(Ey last k).1;omega);have h2:=yO (k.drop (jk last k)) (by simp;omega);have h3:=yO v (by omega);simp only[aQ]at h2;unfold yg;simp only[aj];omega
theorem Td (c:Chg) (hk:c.k.length<=8) (hv:c.v.length<=12):(zq c).length<=25:=by
 have h2:=yO c.k (by omega);have h3:=yO c.v (by omega);unfold zq;split<;>simp only[aj,aP,bN]<;>omega
structure BpW (w:aa) (xb:Nat) (k v:ByteArray) (w':aa):Prop where
 c0:w'.cell? ⟨xb,0,none⟩=some (.string k)
 c1:w'.cell? ⟨xb,1,none⟩=some (.string v)
 b:aq w.heap.size w w'
theorem BpW.next {xb:Nat} {v:ByteArray} (h:BpW w xb k v w1) (hb:aq w1.heap.size w1 w2):BpW w xb k v w2:=
 ⟨(hb.cell (xbl w1 _ h.c0)).trans h.c0,(hb.cell (xbl w1 _ h.c1)).trans h.c1,h.b.trans (hb.mono h.b.size)⟩
theorem jel {xb:Nat} {v:ByteArray} (h:A/\B/\Hid (BpW w xb k v w1)) (hn:n<=1000):
  ax prog 57 #[.int .i64 n] w1 λe w'=>e=.returned (.string (bsB (ve n)))/\BpW w xb k v w':=(yD n (by omega)).mono λe w' h2=>⟨h2.1,h.2.2.out.next h2.2⟩
theorem Gl {xb:Nat} {v:ByteArray} (h:A/\B/\Hid (BpW w xb k v w1)) (hs:s.size<=1000):
  ax prog 58 #[.string s] w1 λe w'=>e=.returned (.string (bsB (zk s.data.toList)))/\BpW w xb k v w':=(TY s (by omega)).mono λe w' h2=>⟨h2.1,h.2.2.out.next h2.2⟩
theorem Yz (lk lv k v:ByteArray) (rU:lk.size<=8) (hk:k.size<=8) (hv:v.size<=12):ax prog 55 #[.agg #[.string lk,.string lv],.agg #[.string k,.string v]] w λe w'=>e=.returned (.string (bsB (yg lk.data.toList k.data.toList v.data.toList)))/\aq w.heap.size w w':=by
 obtain⟨n,hn⟩:∃n,jk lk.data.toList k.data.toList=n:=⟨_,rfl⟩
 have hle:=Ey lk.data.toList k.data.toList;rw[hn]at hle;have hnk:n<=k.size:=by simpa using hle.2
 have HS:=Hd (λw=>q1u (w:=w) lk k (by omega));rw[hn]at HS;have MW:(k.extract n k.size).data.toList=k.data.toList.drop n:=by
  simp;exact aE (by simp)
 have h2:=yO (k.data.toList.drop n) (by simp;omega);have h3:=yO v.data.toList (by simp;omega);have z1:(bsB (ve n)).size<=9:=by rw[rR];exact xlt (vk 8 n (by omega)) (by omega)
 have z2:(bsB (zk (k.extract n k.size).data.toList)).size<=20:=by rw[rR,MW];simp at h2;omega
 have z3:(bsB (zk v.data.toList)).size<=20:=by rw[rR];simp at h3;omega
 have zF:bsB (ve n)++bsB (zk (k.extract n k.size).data.toList)++bsB (zk v.data.toList)=bsB (yg lk.data.toList k.data.toList v.data.toList):=by
  unfold yg;rw[hn,MW,Au,Au]
 have FJ:=Hd zF;have HZ:Hid (n<=1000/\(k.extract n k.size).size<=1000/\v.size<=1000):=Hd ⟨by omega,by simp;omega,by omega⟩;clear hn hle MW h2 h3 zF;generalize bsB (yg lk.data.toList k.data.toList v.data.toList)=rb at*;have HNU:=Hd (λ(w1:aa) (A B:Prop) (h:A/\B/\Hid (BpW w (w.heap.size+1) k v w1))=>jel h HZ.1);have Js:=Hd (λ(w1:aa) (A B:Prop) (h:A/\B/\Hid (BpW w (w.heap.size+1) k v w1))=>Gl h HZ.2.1);have NJ:=Hd (λ(w1:aa) (A B:Prop) (h:A/\B/\Hid (BpW w (w.heap.size+1) k v w1))=>Gl h HZ.2.2);generalize bsB (ve n)=nb at*;generalize bsB (zk (k.extract n k.size).data.toList)=t1 at*;generalize bsB (zk v.data.toList)=t2 at*;have y1:¬9223372036854775807<nb.size+t1.size:=by omega
 have y2:¬9223372036854775807<nb.size+t1.size+t2.size:=by omega
 go_enter func55,ntmps55;go_wp2_with (go_at_call 56;refine(HS.o _).mono ?_;rintro e w1 ⟨rfl,h1⟩;have H1:=Hd ((BpW.mk (w:=w) (xb:=w.heap.size+1) (k:=k) (v:=v) (by go_simp) (by go_simp) (((j5 _ _).alloc (jd _) _).alloc (by simp) _)).next h1);obtain⟨c0,c1,_⟩:=H1.o;clear h1)
 go_region_held3 (λw'=>w'.cell? ⟨w.heap.size+1,0,none⟩=some (.string k)/\w'.cell? ⟨w.heap.size+1,1,none⟩=some (.string v)/\Hid (BpW w (w.heap.size+1) k v w'))
  (first|exact⟨c0,c1,Hd ⟨c0,c1,H1.b.drew⟩⟩|exact⟨H4.c0,H4.c1,H4⟩|exact⟨H3.c0,H3.c1,H3⟩|exact⟨H2.c0,H2.c1,H2⟩)
  (first
   |(go_at_call 57;refine(HNU.o _ _ _ (by assumption)).mono ?_;rintro e w2 ⟨rfl,h2⟩;have H2:=Hd h2;clear h2)
   |(go_at_call 58;refine(Js.o _ _ _ (by assumption)).mono ?_;rintro e w3 ⟨rfl,h3⟩;have H3:=Hd h3;clear h3)
   |(go_at_call 58;refine(NJ.o _ _ _ (by assumption)).mono ?_;rintro e w4 ⟨rfl,h4⟩;have H4:=Hd h4;clear h4))
 all_goals
  go_wp2;go_ret;rw[<-FJ.o];exact⟨rfl,H4.b⟩
theorem Yr (lk lv:ByteArray) (lg:Bool) (k v:ByteArray) (g:Bool) (hk:k.size<=8) (hv:v.size<=12):ax prog 60 #[.agg #[.string lk,.string lv,.bool lg],.agg #[.string k,.string v,.bool g]] w λe w'=>e=.returned (.string (bsB (zq ⟨k.data.toList,v.data.toList,g⟩)))/\aq w.heap.size w w':=by
 have h2:=yO k.data.toList (by simp;omega);have h3:=yO v.data.toList (by simp;omega);have z2:(bsB (zk k.data.toList)).size<=20:=by rw[rR];simp at h2;omega
 have z3:(bsB (zk v.data.toList)).size<=20:=by rw[rR];simp at h3;omega
 have HZ:Hid (k.size<=1000/\v.size<=1000):=Hd ⟨by omega,by omega⟩;have Js:=Hd (λ(w1:aa) (A B:Prop) (h:A/\B/\Hid (BpW w (w.heap.size+1) k v w1))=>Gl h HZ.1);have NJ:=Hd (λ(w1:aa) (A B:Prop) (h:A/\B/\Hid (BpW w (w.heap.size+1) k v w1))=>Gl h HZ.2);have HB:Hid (BpW w (w.heap.size+1) k v ((w.alloc (.cells #[.string lk,.string lv,.bool lg] 109)).alloc (.cells #[.string k,.string v,.bool g] 109))):=Hd (BpW.mk (by go_simp) (by go_simp) (((j5 _ _).alloc (jd _) _).alloc (by simp) _));cases g
 ·have zF:(⟨#[1]⟩:ByteArray)++bsB (zk k.data.toList)++bsB (zk v.data.toList)=bsB (zq ⟨k.data.toList,v.data.toList,false⟩):=by
   unfold zq;rw[if_neg (λh=>by cases h),<-Au,<-Au];rfl
  have FJ:=Hd zF;clear h2 h3 zF;generalize bsB (zq ⟨k.data.toList,v.data.toList,false⟩)=rb at*;generalize bsB (zk k.data.toList)=t1 at*;generalize bsB (zk v.data.toList)=t2 at*;have y1:¬9223372036854775807<1+t1.size:=by omega
  have y2:¬9223372036854775807<1+t1.size+t2.size:=by omega
  go_enter func60,ntmps60;go_wp2;obtain⟨X,hX⟩:∃X,(w.alloc (.cells #[.string lk,.string lv,.bool lg] 109)).alloc (.cells #[.string k,.string v,.bool false] 109)=X:=⟨_,rfl⟩
  rw[hX]at HB⊢;clear hX;obtain⟨c0,c1,_⟩:=HB.o;go_region_held3 (λw'=>w'.cell? ⟨w.heap.size+1,0,none⟩=some (.string k)/\w'.cell? ⟨w.heap.size+1,1,none⟩=some (.string v)/\Hid (BpW w (w.heap.size+1) k v w'))
   (first|exact⟨c0,c1,Hd ⟨c0,c1,HB.b.drew⟩⟩|exact⟨H4.c0,H4.c1,H4⟩|exact⟨H3.c0,H3.c1,H3⟩)
   (first
    |(go_at_call 58;refine(Js.o _ _ _ (by assumption)).mono ?_;rintro e w3 ⟨rfl,h3⟩;have H3:=Hd h3;clear h3)
    |(go_at_call 58;refine(NJ.o _ _ _ (by assumption)).mono ?_;rintro e w4 ⟨rfl,h4⟩;have H4:=Hd h4;clear h4))
  all_goals
   go_wp2;go_ret;rw[<-FJ.o];exact⟨rfl,H4.b⟩
 ·have zF:(⟨#[2]⟩:ByteArray)++bsB (zk k.data.toList)=bsB (zq ⟨k.data.toList,v.data.toList,true⟩):=by
   unfold zq;rw[if_pos rfl,<-Au];rfl
  have FJ:=Hd zF;clear h2 h3 zF;generalize bsB (zq ⟨k.data.toList,v.data.toList,true⟩)=rb at*;generalize bsB (zk k.data.toList)=t1 at*;have y1:¬9223372036854775807<1+t1.size:=by omega
  go_enter func60,ntmps60;go_wp2_with (go_at_call 58;refine(Js.o _ _ _ (ah True.intro (ah True.intro HB))).mono ?_;rintro e w3 ⟨rfl,h3⟩;have H3:=Hd h3;clear h3)
  go_ret;rw[<-FJ.o];exact⟨rfl,H3.b⟩
end
def iy:Bs->Bool->UInt8×Bs×Bool
 |[],_=>(0,[],true)
 |b::r,bad=>(b,r,bad)
def gV:Nat->Bool->Nat->Nat->Bs->Bool->Nat×Bs×Bool
 |0,_,_,_,_,_=>(0,[],true)
 |k+1,first,a,m,s,bad=>if !first&&(iy s bad).1.toNat==0 then(0,[],true)else if(iy s bad).1.toNat<128 then(a+(iy s bad).1.toNat%128*m,(iy s bad).2)else gV k false (a+(iy s bad).1.toNat%128*m) (m*128) (iy s bad).2.1 (iy s bad).2.2
def takeC (n:Nat) (l:Bs) (bad:Bool):Bs×Bs×Bool:=if l.length<n then([],[],true)else(l.take n,l.drop n,bad)
theorem Ap:∀(k:Nat) (first:Bool) (a m:Nat) (s:Bs),match mX k first a m s with
  |some p=>gV k first a m s false=(p.1,p.2,false)
  |none=>(gV k first a m s false).2=([],true)
 |0,_,_,_,_=>rfl
 |k+1,first,a,m,[]=>by
  show(gV (k+1) first a m [] false).2=([],true);cases first<;>rfl
 |k+1,first,a,m,b::s=>by
  have ih:=Ap k false (a+b.toNat%128*m) (m*128) s;rw[mX];have e:(iy (b::s) false)=(b,s,false):=rfl;have e2:gV (k+1) first a m (b::s) false=if !first&&b.toNat==0 then(0,[],true)else if b.toNat<128 then(a+b.toNat%128*m,(s,false))else gV k false (a+b.toNat%128*m) (m*128) s false:=rfl
  rw[e2];by_cases h1:(!first&&b.toNat==0)=true
  ·rw[if_pos h1,if_pos h1]
  ·rw[if_neg h1,if_neg h1];by_cases h2:b.toNat<128
   ·rw[if_pos h2,if_pos h2,Nat.mod_eq_of_lt h2]
   ·rw[if_neg h2,if_neg h2];exact ih
def jW (w:aa) (cb:Nat) (l:Bs) (bad:Bool):Prop:=w.heap[cb]?=some (.cells #[sv l,.bool bad] 125 (0,0))
theorem qh (l:Bs):∃s:ByteArray,s.data.toList=l:=⟨⟨l.toArray⟩,by simp⟩
theorem uh {l:Bs} (h:s.data.toList=l):s.size=l.length:=by rw[<-h];simp
theorem ext_list (s:ByteArray) (i j:Nat):(s.extract i j).data.toList=(s.data.toList.take j).drop i:=by
 rw[ByteArray.data_extract,Array.toList_extract];simp[List.drop_take]
section
variable {w w':aa} {cb:Nat} {l:Bs} {bad:Bool}
theorem jW.cells {s:ByteArray} (h:jW w cb l bad) (hs:s.data.toList=l):w.cell? ⟨cb,0,none⟩=some (.string s)/\w.cell? ⟨cb,1,none⟩=some (.bool bad)/\w.frozen? ⟨cb,0,none⟩=false/\w.frozen? ⟨cb,1,none⟩=false:=by
 unfold jW at h;rw[jb hs]at h;exact⟨by simp[ag,h],by simp[ag,h],by simp[aw,h],by simp[aw,h]⟩
def wL (w:aa) (cb:Nat) (v:ac) (r:Bs×Bool) (e:bG) (w':aa):Prop:=e=.returned v/\jW w' cb r.1 r.2/\But (· =cb) w w'
theorem jW.rest {r:Bs} (h:jW w cb l bad) (hs:s.data.toList=r):jW (w.setCell ⟨cb,0,none⟩ (.string s)) cb r bad/\But (· =cb) w (w.setCell ⟨cb,0,none⟩ (.string s)):=by
 have k:=xhs w cb 0 _ _ (.string s) h;exact⟨by unfold jW;rw[k,jb hs];rfl,But.setCell (B:=(· =cb)) (But.refl _ _) rfl _ _⟩
theorem jW.fail (h:jW w cb l bad):jW ((w.setCell ⟨cb,1,none⟩ (.bool true)).setCell ⟨cb,0,none⟩ (.string ⟨#[]⟩)) cb [] true/\But (· =cb) w ((w.setCell ⟨cb,1,none⟩ (.bool true)).setCell ⟨cb,0,none⟩ (.string ⟨#[]⟩)):=by
 have k1:=xhs w cb 1 _ _ (.bool true) h;have k2:=xhs _ cb 0 _ _ (.string ⟨#[]⟩) k1;exact⟨k2.trans rfl,But.setCell (B:=(· =cb)) (But.setCell (B:=(· =cb)) (But.refl _ _) rfl _ _) rfl _ _⟩
theorem Gu (h:jW w cb l bad):ax prog 91 #[.pointer (some ⟨cb,0,none⟩)] w (wL w cb (.tuple #[]) ([],true)):=by
 obtain⟨s,hs⟩:=qh l;obtain⟨c0,c1,f0,f1⟩:=h.cells hs;have HK:=Hd h.fail;clear h hs;go_enter func91,ntmps91;go_wp2;go_end0;exact⟨rfl,HK.o⟩
theorem Eg (h:jW w cb l bad):ax prog 62 #[.pointer (some ⟨cb,0,none⟩)] w (wL w cb (.int .u8 (iy l bad).1.toNat) (iy l bad).2):=by
 obtain⟨s,hs⟩:=qh l;obtain⟨c0,c1,f0,f1⟩:=h.cells hs;have hl:=uh hs;cases l with
 |nil=>
  have he:s.toList.isEmpty=true:=by rw[toList_nil (by simpa using hl)];rfl
  have HC:=Hd (Gu h);clear h hs hl;go_enter func62,ntmps62;go_wp2_with (go_at_call 91;refine HC.mono ?_;rintro e w1 ⟨rfl,h1⟩;have H1:=Hd h1;clear h1)
  go_ret;exact⟨rfl,H1.o⟩
 |cons b r=>
  simp at hl;have hz:0<s.size:=by omega
  have he:s.toList.isEmpty=false:=Ht hz;have h0:(s[0]'hz)=b:=by
   have h1:s[0]'hz=s.data.toList[0]'(by rw[hs];simp):=by simp[ao]
   rw[h1];simp[hs]
  have hr:(s.extract 1 s.size).data.toList=r:=by
   rw[ext_list,aE (by simp),hs];rfl
  have HR:=Hd (h.rest hr);have hz1:((1:Int)<=s.size):=by omega
  clear h hs hr hl;go_enter func62,ntmps62;go_wp2;go_ret;exact⟨rfl,HR.o⟩
theorem q29 (h:jW w cb l bad) (n:Nat):ax prog 92 #[.pointer (some ⟨cb,0,none⟩),.int .i64 n] w (wL w cb (sv (takeC n l bad).1) (takeC n l bad).2):=by
 obtain⟨s,hs⟩:=qh l;obtain⟨c0,c1,f0,f1⟩:=h.cells hs;have hz:=uh hs;by_cases eB:l.length<n
 ·rw[show takeC n l bad=([],[],true)from if_pos eB];have g1:decide ((s.size:Int)<n)=true:=xdt (by omega);have HC:=Hd (Gu h);clear h hs;go_enter func92,ntmps92;go_wp2_with (go_at_call 91;refine HC.mono ?_;rintro e w1 ⟨rfl,h1⟩;have H1:=Hd h1;clear h1)
  go_ret;exact⟨rfl,H1.o⟩
 ·rw[show takeC n l bad=(l.take n,l.drop n,bad)from if_neg eB];have g1:decide ((s.size:Int)<n)=false:=xdf (by omega);have hr:(s.extract n s.size).data.toList=l.drop n:=by
   rw[ext_list,aE (by simp),hs]
  have HR:=Hd (h.rest hr);have HV:Hid (sv (l.take n)=.string (s.extract 0 n)):=Hd (jb (by rw[ext_list,hs];rfl));have U3:((n:Int)<=s.size):=by omega
  have MQ:n<=s.size:=by omega
  rw[show(l.take n,l.drop n,bad).1=l.take n from rfl,HV.o];clear h hs hr hz eB;go_enter func92,ntmps92;go_wp2;go_ret;exact⟨rfl,HR.o⟩
structure DY (w:aa) (cb:Nat) (l0:Bs) (xX:Bool) (j a:Nat) (wr:aa):Prop where
 b:∃l bad,jW wr cb l bad/\gV 4 true 0 1 l0 xX=gV (4-j) (j==0) a (128^j) l bad
 a:a<128^j
 but:But (· =cb) w wr
theorem q93 (j:Nat) (h:a<128^j) (hm:m=128^j):a|||(b*m)=a+b*m:=by
 have e:128^j=2^(7*j):=by rw[Nat.pow_mul]
 rw[hm,e,Nat.or_comm,<-Nat.shiftLeft_eq,Nat.add_comm];exact(Nat.shiftLeft_add_eq_or_of_lt (by rw[<-e];exact h) b).symm
theorem q9t {c:Nat} (hj:j<4) (ha:a<128^j) (hc:c<256):bits .or .i64 (a:Int) (wrap64 (wrap64 (bits .and .u8 (c:Int) 127)*2^(7*j)))=((a+c%128*128^j:Nat):Int):=by
 have e1:=u8_and_nat c 127 hc (by decide);rw[show((127:Nat):Int)=127 from rfl,show c&&&127=c%128 from Nat.and_two_pow_sub_one_eq_mod c 7]at e1;have hp:128^j<=128^3:=aV (by decide) (by omega);have hm:c%128*128^j<=127*128^3:=Nat.mul_le_mul (by omega) hp;have e2:((2:Int)^(7*j))=((128^j:Nat):Int):=by rw[Int.pow_mul];simp
 have e3:wrap64 ((c%128:Nat):Int)=((c%128:Nat):Int):=by unfold wrap64;omega
 have e4:wrap64 (((c%128*128^j:Nat)):Int)=((c%128*128^j:Nat):Int):=by unfold wrap64;omega
 rw[e1,e3,e2,<-Int.natCast_mul,e4,Y6 a _ (by omega) (by omega),q93 j ha rfl]
theorem DY.step {w0 w2:aa} {l0 l1:Bs} {xX ng:Bool} {j a:Nat} (h:DY w0 cb l0 xX j a w) (hj:j<4) (he:gV 4 true 0 1 l0 xX=gV (4-j) (j==0) a (128^j) l1 ng) (h1:jW w2 cb (iy l1 ng).2.1 (iy l1 ng).2.2/\But (· =cb) w w2):
  (0<j->(iy l1 ng).1.toNat=0->gV 4 true 0 1 l0 xX=(0,[],true))/\(¬(0<j/\(iy l1 ng).1.toNat=0)->(iy l1 ng).1.toNat<128->gV 4 true 0 1 l0 xX=(a+(iy l1 ng).1.toNat%128*128^j,(iy l1 ng).2))/\(128<=(iy l1 ng).1.toNat->DY w0 cb l0 xX (j+1) (a+(iy l1 ng).1.toNat%128*128^j) w2):=by
 obtain⟨q,hq⟩:∃q,4-j=q+1:=⟨3-j,by omega⟩
 have I8:4-(j+1)=q:=by omega
 obtain⟨X,hX⟩:∃X,gV 4 true 0 1 l0 xX=X:=⟨_,rfl⟩
 rw[hX]at he⊢;rw[hq,gV]at he;refine⟨λxH hc=>?_,λhn hc=>?_,λhc=>⟨⟨_,_,h1.1,?_⟩,?_,h.but.trans h1.2⟩⟩
 ·rw[he,if_pos (by rw[hc];simp;omega)]
 ·rw[he,if_neg (by simp only[aJ,bD,beq_eq_false_iff_ne,beq_iff_eq];omega),if_pos hc]
 ·rw[hX,he,if_neg (by simp only[aJ,bD,beq_eq_false_iff_ne,beq_iff_eq];omega),if_neg (by omega),I8,aD];rfl
 ·have:=h.a;have h2:(iy l1 ng).1.toNat%128*128^j<=127*128^j:=aG _ (by omega);rw[aD];omega
theorem Ao (h:jW w cb l bad):ax prog 63 #[.pointer (some ⟨cb,0,none⟩)] w (wL w cb (.int .i64 (gV 4 true 0 1 l bad).1) (gV 4 true 0 1 l bad).2):=by
 have HS:Hid (DY w cb l bad 0 0 w):=Hd ⟨⟨l,bad,h,rfl⟩,by decide,But.refl _ _⟩;clear h;go_enter func63,ntmps63;go_wp2;go_loopw [3,4] (λn k wr=>∃j a:Nat,j<=4/\n=.int .i64 a/\k=.int .i64 (7*j:Nat)/\Hid (DY w cb l bad j a wr)) (λ_ k _=>28-(intOf k).toNat);case atStart=>exact⟨0,0,by omega,rfl,rfl,HS⟩
 case round=>
  obtain⟨j,a,hj,rfl,rfl,HR⟩:=hrel;obtain⟨l1,ng,h1,h2⟩:=HR.b;have oU:=Hd h1;have HE:=Hd h2;clear h1 h2;by_cases xG:j<4
  ·have HB:=Hd (Eg oU.o);have eo:=q9t xG HR.a (yK (iy l1 ng).1);obtain⟨c,hc⟩:∃c,(iy l1 ng).1.toNat=c:=⟨_,rfl⟩
   have HT:=Hd (λw2 h=>HR.step (w2:=w2) xG HE.o h);rw[hc]at HB HT eo;clear hc;go_wp2_with (first
    |(go_at_call 62;refine HB.mono ?_;rintro e w1 ⟨rfl,h1⟩;have H1:=Hd h1;clear h1)
    |(go_at_call 91;refine(Gu H1.1).mono ?_;rintro e w2 ⟨rfl,h2⟩;have H2:=Hd h2;clear h2))
   ·rename_i z1 z2;go_ret;rw[wL,(HT.o _ H1.o).1 (by omega) (by simpa using z2)];exact⟨rfl,H2.1,HR.but.trans (H1.2.trans H2.2)⟩
   ·rename_i z1 z2 z3;go_ret;rw[wL,(HT.o _ H1.o).2.1 (λe=>by have:=e.2;simp[this]at z2) (by omega)];exact⟨by simp,H1.1,HR.but.trans H1.2⟩
   ·go_roundw;case rel=>exact⟨j+1,_,by omega,by simp,by go_num,Hd ((HT.o _ H1.o).2.2 (by omega))⟩
    case measure=>simp[intOf];omega
   ·rename_i z2 z3;go_ret;rw[wL,(HT.o _ H1.o).2.1 (by omega) (by omega)];exact⟨by simp,H1.1,HR.but.trans H1.2⟩
   ·go_roundw;case rel=>exact⟨j+1,_,by omega,by simp,by go_num,Hd ((HT.o _ H1.o).2.2 (by omega))⟩
    case measure=>simp[intOf];omega
  ·obtain rfl:j=4:=by omega
   go_wp2_with (go_at_call 91;refine(Gu oU.o).mono ?_;rintro e w2 ⟨rfl,h2⟩;have H2:=Hd h2;clear h2)
   go_ret;exact⟨by rw[HE.o];rfl,by rw[HE.o];exact H2.1,HR.but.trans H2.2⟩
def jV (l:Bs) (bad:Bool):Bs×Bs×Bool:=takeC (gV 4 true 0 1 l bad).1 (gV 4 true 0 1 l bad).2.1 (gV 4 true 0 1 l bad).2.2
theorem Rj (l:Bs) (bad:Bool):(iy l bad).2.1.length<=l.length:=by
 cases l with
 |nil=>exact jd _
 |cons b r=>exact Nat.le_succ _
theorem CO:∀(k:Nat) (first:Bool) (a m:Nat) (l:Bs) (bad:Bool),(gV k first a m l bad).2.1.length<=l.length
 |0,_,_,_,_,_=>xzl _
 |k+1,first,a,m,l,bad=>by
  have h:=Rj l bad;rw[gV];split
  ·exact xzl _
  ·split
   ·exact h
   ·exact xlt (CO ..) h
theorem Kr:∀(k:Nat) (first:Bool) (a m:Nat) (l:Bs) (bad:Bool),(gV k first a m l bad).1+m<=a+m*128^k
 |0,_,a,m,_,_=>by show 0+m<=a+m*128^0;omega
 |k+1,first,a,m,l,bad=>by
  have hp:m*128<=m*128^(k+1):=Nat.mul_le_mul_left _ (by rw[aD];have:0<128^k:=Nat.pow_pos (by decide);omega);have hb:(iy l bad).1.toNat%128*m<=127*m:=aG _ (by omega);rw[gV];split
  ·show 0+m<=_;omega
  ·split
   ·show a+(iy l bad).1.toNat%128*m+m<=_;omega
   ·have h:=Kr k false (a+(iy l bad).1.toNat%128*m) (m*128) (iy l bad).2.1 (iy l bad).2.2;have e:m*128*128^k=m*128^(k+1):=by rw[aD,Nat.mul_comm (128^k),Nat.mul_assoc]
    rw[e]at h;omega
theorem wJ (h:jW w cb l bad):ax prog 64 #[.pointer (some ⟨cb,0,none⟩)] w (wL w cb (sv (jV l bad).1) (jV l bad).2):=by
 have HN:=Hd (Ao h);unfold jV;obtain⟨X,hX⟩:∃X,gV 4 true 0 1 l bad=X:=⟨_,rfl⟩
 rw[hX]at HN⊢;clear h hX;obtain⟨n,l1,ng⟩:=X;have HT:=Hd (λw1 (h1:jW w1 cb l1 ng)=>q29 h1 n);obtain⟨Y,hY⟩:∃Y,takeC n l1 ng=Y:=⟨_,rfl⟩
 show ax _ _ _ _ (wL w cb (sv (takeC n l1 ng).1) (takeC n l1 ng).2);rw[hY]at HT⊢;clear hY;obtain⟨s,hs⟩:=qh Y.1;rw[jb hs]at HT⊢;clear hs;go_enter func64,ntmps64;go_wp2_with (first
  |(go_at_call 63;refine HN.mono ?_;rintro e w1 ⟨rfl,h1⟩;have H1:=Hd h1;clear h1)
  |(go_at_call 92;refine(HT.o _ H1.1).mono ?_;rintro e w2 ⟨rfl,h2⟩;have H2:=Hd h2;clear h2))
 go_ret;exact⟨rfl,H2.1,H1.2.trans H2.2⟩
end
section
variable {w:aa}
def o9:Bs->KV->Bs->Nat->Bs×Nat
 |_,[],s,n=>(s,n)
 |last,p::r,s,n=>if 0<n/\40<1+s.length+(yg last p.1 p.2).length then(s,n)else o9 p.1 r (s++yg last p.1 p.2) (n+1)
def lK (l:KV):Bs×Nat:=(ve (o9 [] l [] 0).2++(o9 [] l [] 0).1,(o9 [] l [] 0).2)
def IL (w:aa) (v:ac) (l:KV):Prop:= ∃sa cp,v=.slice sa l.length cp/\∀i p,l[i]?=some p->∃g o,sa=some ⟨g,o,none⟩/\w.cell? ⟨g,o+i*2,none⟩=some (sv p.1)/\w.cell? ⟨g,o+i*2+1,none⟩=some (sv p.2)
structure FbW (w:aa) (l:KV) (last zu sb:ByteArray) (nn j:Nat) (wr:aa):Prop where
 eq:o9 [] l [] 0=o9 last.data.toList (l.drop j) sb.data.toList nn
 sz:sb.size<=39
 c:wr.heap[w.heap.size]?=some (.cells #[.string last,.string zu] 62 (0,0))
 b:aq w.heap.size w wr
 ll:last.size<=8
theorem FbW.below {last:ByteArray} {w wr:aa} {l:KV} (h:FbW w l last zu sb nn j wr) (hb:aq wr.heap.size wr w2):FbW w l last zu sb nn j w2:={h with c:=(hb.block _ (kg h.c).1).trans h.c,b:=h.b.trans (hb.mono h.b.size)}
theorem FbW.cells {last zu sb:ByteArray} {w wr:aa} {l:KV} {nn j:Nat} (h:FbW w l last zu sb nn j wr):wr.cell? ⟨w.heap.size,0,none⟩=some (.string last)/\wr.cell? ⟨w.heap.size,1,none⟩=some (.string zu)/\(∀i,wr.frozen? ⟨w.heap.size,i,none⟩=false):=⟨by simp[ag,h.c],by simp[ag,h.c],λi=>by simp[aw,h.c]⟩
theorem FbW.more {last:ByteArray} {w:aa} {l:KV} {p:Bs×Bs} {kb:ByteArray} (h:FbW w l last zu sb nn j w2) (hp:l[j]?=some p) (iY:kb.data.toList=p.1) (nk:vb.data.toList=p.2) (lV:bsB (yg last.data.toList p.1 p.2)=pb) (fI:¬(0<nn/\40<1+sb.size+pb.size)) (eY:pb.size<=25) (rV:kb.size<=8) (Bd:nn=0->sb.size=0):
  FbW w l kb vb (sb++pb) (nn+1) (j+1) ((w2.setCell ⟨w.heap.size,0,none⟩ (.string kb)).setCell ⟨w.heap.size,1,none⟩ (.string vb)):=by
 have pI:pb.size=(yg last.data.toList p.1 p.2).length:=by rw[<-lV,rR]
 have fG:(sb++pb).size=sb.size+pb.size:=by simp
 refine{eq:=?_,sz:=by rw[fG];omega,c:=?_,b:=(h.b.setCell (jd _) _).setCell (jd _) _,ll:=rV}
 ·obtain⟨hj,rfl⟩:=ai.1 hp;rw[h.eq,am hj,o9,if_neg (by rw[<-pI];simpa using fI)];have e2:(sb++pb).data.toList=sb.data.toList++yg last.data.toList l[j].1 l[j].2:=by
   rw[<-lV];simp[bsB]
  rw[e2,iY]
 ·have c1:=xhs w2 w.heap.size 0 _ _ (.string kb) h.c;have c2:=xhs _ w.heap.size 1 _ _ (.string vb) c1;exact c2
theorem FbW.stop {last:ByteArray} {w wr:aa} {l:KV} {p:Bs×Bs} (h:FbW w l last zu sb nn j wr) (hp:l[j]?=some p) (lV:bsB (yg last.data.toList p.1 p.2)=pb) (fI:0<nn/\40<1+sb.size+pb.size):o9 [] l [] 0=(sb.data.toList,nn):=by
 have pI:pb.size=(yg last.data.toList p.1 p.2).length:=by rw[<-lV,rR]
 obtain⟨hj,rfl⟩:=ai.1 hp;rw[h.eq,am hj,o9,if_pos (by rw[<-pI];simpa using fI)]
theorem FbW.fin {last:ByteArray} {w wr:aa} {l:KV} (h:FbW w l last zu sb nn l.length wr):o9 [] l [] 0=(sb.data.toList,nn):=by
 rw[h.eq,List.drop_length,o9]
theorem PX {l:KV} (h:o9 [] l [] 0=(sb.data.toList,nn)):bsB (lK l).1=(⟨(ve nn).toArray⟩:ByteArray)++sb/\(lK l).2=nn:=by
 unfold lK;rw[h];exact⟨by rw[<-Au,Qc (b:=sb) rfl];rfl,rfl⟩
theorem q3l {v:ac} {l:KV} (hv:IL w v l) (hl:l.length<=1000000) (hk:∀p∈l,p.1.length<=8/\p.2.length<=12):ax prog 54 #[v,.func (.func 55) #[] #[]] w λe w'=>e=.returned (.tuple #[.string (bsB (lK l).1),.int .i64 ((lK l).2:Nat)])/\aq w.heap.size w w':=by
 obtain⟨sa,cp,rfl,hc⟩:=hv;have HC:=Hd hc;have HK:=Hd hk;clear hc hk;go_enter func54,ntmps54;go_wp2;go_loopw [7,8,14] (λs n i wr=>∃(j nn:Nat) (last zu sb:ByteArray),s=.string sb/\n=.int .i64 nn/\i=.int .i64 j/\j<=l.length/\nn<=j/\Hid (FbW w l last zu sb nn j wr/\(nn=0->sb.size=0))) (λ_ _ i _=>l.length-(intOf i).toNat);case atStart=>exact⟨0,0,⟨#[]⟩,⟨#[]⟩,⟨#[]⟩,rfl,rfl,rfl,xzl _,jd _,Hd ⟨{eq:=by simp,sz:=by decide,c:=aC _ _,b:=(j5 _ _).alloc (jd _) _,ll:=xzl _},λ_=>rfl⟩⟩
 case round=>
  obtain⟨j,nn,last,zu,sb,rfl,rfl,rfl,hj,vN,HW⟩:=hrel;have fG:=HW.1.sz;by_cases jO:j<l.length
  ·obtain⟨p,hp⟩:∃p,l[j]?=some p:=⟨_,aK jO⟩
   obtain⟨g,o,rfl,dd⟩:=HC.o j p hp;obtain⟨Bg,zZ⟩:=HK.o p (bu hp);obtain⟨kb,iY⟩:=qh p.1;obtain⟨vb,nk⟩:=qh p.2;rw[jb iY,jb nk]at dd;have EY:kb.size<=8:=by rw[uh iY];exact Bg
   have MB:vb.size<=12:=by rw[uh nk];exact zZ
   have dw:=λ(a:Addr) (u:ac) (h:w.cell? a=some u)=>(HW.1.b.cell (xbl w a h)).trans h;obtain⟨pb,lV⟩:∃pb,bsB (yg last.data.toList p.1 p.2)=pb:=⟨_,rfl⟩
   have MK:pb.size<=25:=by rw[<-lV,rR];exact Tg _ _ _ (by simpa using HW.1.ll) Bg zZ
   have HP:Hid (∀W,ax prog 55 #[.agg #[.string last,.string zu],.agg #[.string kb,.string vb]] W λe w'=>e=.returned (.string pb)/\aq W.heap.size W w'):=Hd λW=>by
    have h:=Yz (w:=W) last zu kb vb HW.1.ll EY MB;rw[iY,nk,lV]at h;exact h
   have HM:=Hd (ah hp (ah iY (ah nk lV)));have d0:=dw _ _ dd.1;have d1:=dw _ _ dd.2;clear dw dd hp iY nk lV Bg zZ;have HX:=Hd (HW.1.below ((j5 wr.heap.size wr).alloc (jd _) (.cells #[.string kb,.string vb] 62)));obtain⟨l0,l1,lf⟩:=HX.cells;have x0:(wr.alloc (.cells #[.string kb,.string vb] 62)).cell? ⟨wr.heap.size,0,none⟩=some (.string kb):=by go_simp
   have x1:(wr.alloc (.cells #[.string kb,.string vb] 62)).cell? ⟨wr.heap.size,1,none⟩=some (.string vb):=by go_simp
   have Al:nn=0\/(0<nn/\40<1+sb.size+pb.size)\/(0<nn/\¬40<1+sb.size+pb.size):=by omega
   rcases Al with rfl|⟨h1,h2⟩|⟨h1,h2⟩;rotate_left
   ·have g1:decide (0<nn)=true:=xdt h1;have g2:decide ((40:Int)<1+sb.size+pb.size)=true:=xdt (by omega);have HE:=Hd (HW.1.stop HM.1 HM.2.2.2 ⟨h1,h2⟩);have MP:=vk 8 nn (by omega);have y1:¬9223372036854775807<(ve nn).length+sb.size:=by omega
    go_wp2_with (first
     |(go_at_call 55;refine(HP.o _).mono ?_;rintro e w2 ⟨rfl,fO⟩;have K2:=Hd (HX.below fO);obtain⟨m0,m1,mf⟩:=K2.cells;clear fO)
     |(go_at_call 57;refine(yD nn (by omega)).mono ?_;rintro e w3 ⟨rfl,fM⟩;have K3:=Hd (K2.below fM);clear fM))
    go_ret2;obtain⟨q1,q2⟩:=PX HE.o;rw[q1,q2];exact⟨rfl,K3.b⟩
   all_goals
    first|have g1:decide (0<nn)=true:=xdt h1|have g1:True:=trivial
    first|have g2:decide ((40:Int)<1+sb.size+pb.size)=false:=xdf (by omega)|have g2:True:=trivial
    have y1:¬9223372036854775807<sb.size+pb.size:=by omega
    go_wp2_with (go_at_call 55;refine(HP.o _).mono ?_;rintro e w2 ⟨rfl,fO⟩;have K2:=Hd (HX.below fO);obtain⟨m0,m1,mf⟩:=K2.cells;have n0:=(fO.cell (xbl _ _ x0)).trans x0;have n1:=(fO.cell (xbl _ _ x1)).trans x1;clear fO)
    go_roundw;case rel=>exact⟨j+1,_,kb,vb,sb++pb,rfl,by go_num,by go_num,by omega,by omega,Hd ⟨K2.more HM.1 HM.2.1 HM.2.2.1 HM.2.2.2 (by omega) MK EY (by first|exact HW.2|exact λ_=>HW.2 trivial),λh=>by omega⟩⟩
    case measure=>simp[intOf]<;>omega
  ·obtain rfl:j=l.length:=by omega
   have HE:=Hd HW.1.fin;have MP:=vk 8 nn (by omega);have y1:¬9223372036854775807<(ve nn).length+sb.size:=by omega
   go_wp2_with (go_at_call 57;refine(yD nn (by omega)).mono ?_;rintro e w3 ⟨rfl,fM⟩;have K3:=Hd (HW.1.below fM);clear fM)
   go_ret2;obtain⟨q1,q2⟩:=PX HE.o;rw[q1,q2];exact⟨rfl,K3.b⟩
theorem q23 {v:ac} {l:KV} (hv:IL w v l) (hl:l.length<=1000000) (hk:∀p∈l,p.1.length<=8/\p.2.length<=12):ax prog 37 #[v] w λe w'=>e=.returned (.tuple #[.string (bsB (lK l).1),.int .i64 ((lK l).2:Nat)])/\aq w.heap.size w w':=by
 have HF:=Hd (q3l hv hl hk);generalize bsB (lK l).1=lb at*;generalize (lK l).2=ln at*;clear hv hl hk;go_enter func37,ntmps37;go_wp2_with (go_at_call 54;refine HF.mono ?_;rintro e w1 ⟨rfl,h1⟩;have H1:=Hd h1;clear h1)
 go_ret2;exact⟨rfl,H1.o⟩
def o8:List Chg->Bs->Nat->Bs×Nat
 |[],s,n=>(s,n)
 |p::r,s,n=>if 0<n/\40<1+s.length+(zq p).length then(s,n)else o8 r (s++zq p) (n+1)
def lJ (l:List Chg):Bs×Nat:=(ve (o8 l [] 0).2++(o8 l [] 0).1,(o8 l [] 0).2)
def IQ (w:aa) (v:ac) (l:List Chg):Prop:= ∃sa cp,v=.slice sa l.length cp/\∀i p,l[i]?=some p->∃g o,sa=some ⟨g,o,none⟩/\w.cell? ⟨g,o+i*3,none⟩=some (sv p.k)/\w.cell? ⟨g,o+i*3+1,none⟩=some (sv p.v)/\w.cell? ⟨g,o+i*3+2,none⟩=some (.bool p.g)
structure FdW (w:aa) (l:List Chg) (last zu:ByteArray) (lg:Bool) (sb:ByteArray) (nn j:Nat) (wr:aa):Prop where
 eq:o8 l [] 0=o8 (l.drop j) sb.data.toList nn
 sz:sb.size<=39
 c:wr.heap[w.heap.size]?=some (.cells #[.string last,.string zu,.bool lg] 109 (0,0))
 b:aq w.heap.size w wr
theorem FdW.below {last:ByteArray} {w wr:aa} {l:List Chg} (h:FdW w l last zu lg sb nn j wr) (hb:aq wr.heap.size wr w2):FdW w l last zu lg sb nn j w2:={h with c:=(hb.block _ (kg h.c).1).trans h.c,b:=h.b.trans (hb.mono h.b.size)}
theorem FdW.cells {last zu sb:ByteArray} {lg:Bool} {w wr:aa} {l:List Chg} {nn j:Nat} (h:FdW w l last zu lg sb nn j wr):wr.cell? ⟨w.heap.size,0,none⟩=some (.string last)/\wr.cell? ⟨w.heap.size,1,none⟩=some (.string zu)/\wr.cell? ⟨w.heap.size,2,none⟩=some (.bool lg)/\(∀i,wr.frozen? ⟨w.heap.size,i,none⟩=false):=⟨by simp[ag,h.c],by simp[ag,h.c],by simp[ag,h.c],λi=>by simp[aw,h.c]⟩
theorem FdW.more {last:ByteArray} {w:aa} {l:List Chg} {p:Chg} {kb:ByteArray} (h:FdW w l last zu lg sb nn j w2) (hp:l[j]?=some p) (iY:kb.data.toList=p.k) (nk:vb.data.toList=p.v) (lV:bsB (zq p)=pb) (fI:¬(0<nn/\40<1+sb.size+pb.size)) (eY:pb.size<=25) (rV:kb.size<=8) (Bd:nn=0->sb.size=0):
  FdW w l kb vb p.g (sb++pb) (nn+1) (j+1) (((w2.setCell ⟨w.heap.size,0,none⟩ (.string kb)).setCell ⟨w.heap.size,1,none⟩ (.string vb)).setCell ⟨w.heap.size,2,none⟩ (.bool p.g)):=by
 have pI:pb.size=(zq p).length:=by rw[<-lV,rR]
 have fG:(sb++pb).size=sb.size+pb.size:=by simp
 refine{eq:=?_,sz:=by rw[fG];omega,c:=?_,b:=((h.b.setCell (jd _) _).setCell (jd _) _).setCell (jd _) _}
 ·obtain⟨hj,rfl⟩:=ai.1 hp;rw[h.eq,am hj,o8,if_neg (by rw[<-pI];simpa using fI)];have e2:(sb++pb).data.toList=sb.data.toList++zq l[j]:=by
   rw[<-lV];simp[bsB]
  rw[e2]
 ·have c1:=xhs w2 w.heap.size 0 _ _ (.string kb) h.c;have c2:=xhs _ w.heap.size 1 _ _ (.string vb) c1;have c3:=xhs _ w.heap.size 2 _ _ (.bool p.g) c2;exact c3
theorem FdW.stop {last:ByteArray} {w wr:aa} {l:List Chg} {p:Chg} (h:FdW w l last zu lg sb nn j wr) (hp:l[j]?=some p) (lV:bsB (zq p)=pb) (fI:0<nn/\40<1+sb.size+pb.size):o8 l [] 0=(sb.data.toList,nn):=by
 have pI:pb.size=(zq p).length:=by rw[<-lV,rR]
 obtain⟨hj,rfl⟩:=ai.1 hp;rw[h.eq,am hj,o8,if_pos (by rw[<-pI];simpa using fI)]
theorem FdW.fin {last:ByteArray} {w wr:aa} {l:List Chg} (h:FdW w l last zu lg sb nn l.length wr):o8 l [] 0=(sb.data.toList,nn):=by
 rw[h.eq,List.drop_length,o8]
theorem PY {l:List Chg} (h:o8 l [] 0=(sb.data.toList,nn)):bsB (lJ l).1=(⟨(ve nn).toArray⟩:ByteArray)++sb/\(lJ l).2=nn:=by
 unfold lJ;rw[h];exact⟨by rw[<-Au,Qc (b:=sb) rfl];rfl,rfl⟩
theorem q3k {v:ac} {l:List Chg} (hv:IQ w v l) (hl:l.length<=1000000) (hk:∀p∈l,p.k.length<=8/\p.v.length<=12):ax prog 59 #[v,.func (.func 60) #[] #[]] w λe w'=>e=.returned (.tuple #[.string (bsB (lJ l).1),.int .i64 ((lJ l).2:Nat)])/\aq w.heap.size w w':=by
 obtain⟨sa,cp,rfl,hc⟩:=hv;have HC:=Hd hc;have HK:=Hd hk;clear hc hk;go_enter func59,ntmps59;go_wp2;go_loopw [7,8,14] (λs n i wr=>∃(j nn:Nat) (last zu:ByteArray) (lg:Bool) (sb:ByteArray),s=.string sb/\n=.int .i64 nn/\i=.int .i64 j/\j<=l.length/\nn<=j/\Hid (FdW w l last zu lg sb nn j wr/\(nn=0->sb.size=0))) (λ_ _ i _=>l.length-(intOf i).toNat);case atStart=>exact⟨0,0,⟨#[]⟩,⟨#[]⟩,false,⟨#[]⟩,rfl,rfl,rfl,xzl _,jd _,Hd ⟨{eq:=by simp,sz:=by decide,c:=aC _ _,b:=(j5 _ _).alloc (jd _) _},λ_=>rfl⟩⟩
 case round=>
  obtain⟨j,nn,last,zu,lg,sb,rfl,rfl,rfl,hj,vN,HW⟩:=hrel;have fG:=HW.1.sz;by_cases jO:j<l.length
  ·obtain⟨p,hp⟩:∃p,l[j]?=some p:=⟨_,aK jO⟩
   obtain⟨g,o,rfl,dd⟩:=HC.o j p hp;obtain⟨Bg,zZ⟩:=HK.o p (bu hp);obtain⟨kb,iY⟩:=qh p.k;obtain⟨vb,nk⟩:=qh p.v;rw[jb iY,jb nk]at dd;have EY:kb.size<=8:=by rw[uh iY];exact Bg
   have MB:vb.size<=12:=by rw[uh nk];exact zZ
   have dw:=λ(a:Addr) (u:ac) (h:w.cell? a=some u)=>(HW.1.b.cell (xbl w a h)).trans h;obtain⟨pb,lV⟩:∃pb,bsB (zq p)=pb:=⟨_,rfl⟩
   have MK:pb.size<=25:=by rw[<-lV,rR];exact Td _ Bg zZ
   have HP:Hid (∀W,ax prog 60 #[.agg #[.string last,.string zu,.bool lg],.agg #[.string kb,.string vb,.bool p.g]] W λe w'=>e=.returned (.string pb)/\aq W.heap.size W w'):=Hd λW=>by
    have h:=Yr (w:=W) last zu lg kb vb p.g EY MB;rw[iY,nk]at h;rw[<-lV];exact h
   have HM:=Hd (ah hp (ah iY (ah nk lV)));have d0:=dw _ _ dd.1;have d1:=dw _ _ dd.2.1;have d2:=dw _ _ dd.2.2;clear dw dd hp iY nk lV Bg zZ;have HX:=Hd (HW.1.below ((j5 wr.heap.size wr).alloc (jd _) (.cells #[.string kb,.string vb,.bool p.g] 109)));obtain⟨l0,l1,l2,lf⟩:=HX.cells;have x0:(wr.alloc (.cells #[.string kb,.string vb,.bool p.g] 109)).cell? ⟨wr.heap.size,0,none⟩=some (.string kb):=by go_simp
   have x1:(wr.alloc (.cells #[.string kb,.string vb,.bool p.g] 109)).cell? ⟨wr.heap.size,1,none⟩=some (.string vb):=by go_simp
   have x2:(wr.alloc (.cells #[.string kb,.string vb,.bool p.g] 109)).cell? ⟨wr.heap.size,2,none⟩=some (.bool p.g):=by go_simp
   have Al:nn=0\/(0<nn/\40<1+sb.size+pb.size)\/(0<nn/\¬40<1+sb.size+pb.size):=by omega
   rcases Al with rfl|⟨h1,h2⟩|⟨h1,h2⟩;rotate_left
   ·have g1:decide (0<nn)=true:=xdt h1;have g2:decide ((40:Int)<1+sb.size+pb.size)=true:=xdt (by omega);have HE:=Hd (HW.1.stop HM.1 HM.2.2.2 ⟨h1,h2⟩);have MP:=vk 8 nn (by omega);have y1:¬9223372036854775807<(ve nn).length+sb.size:=by omega
    go_wp2_with (first
     |(go_at_call 60;refine(HP.o _).mono ?_;rintro e w2 ⟨rfl,fO⟩;have K2:=Hd (HX.below fO);obtain⟨m0,m1,m2,mf⟩:=K2.cells;clear fO)
     |(go_at_call 57;refine(yD nn (by omega)).mono ?_;rintro e w3 ⟨rfl,fM⟩;have K3:=Hd (K2.below fM);clear fM))
    go_ret2;obtain⟨q1,q2⟩:=PY HE.o;rw[q1,q2];exact⟨rfl,K3.b⟩
   all_goals
    first|have g1:decide (0<nn)=true:=xdt h1|have g1:True:=trivial
    first|have g2:decide ((40:Int)<1+sb.size+pb.size)=false:=xdf (by omega)|have g2:True:=trivial
    have y1:¬9223372036854775807<sb.size+pb.size:=by omega
    go_wp2_with (go_at_call 60;refine(HP.o _).mono ?_;rintro e w2 ⟨rfl,fO⟩;have K2:=Hd (HX.below fO);obtain⟨m0,m1,m2,mf⟩:=K2.cells;have n0:=(fO.cell (xbl _ _ x0)).trans x0;have n1:=(fO.cell (xbl _ _ x1)).trans x1;have n2:=(fO.cell (xbl _ _ x2)).trans x2;clear fO)
    go_roundw;case rel=>exact⟨j+1,_,kb,vb,p.g,sb++pb,rfl,by go_num,by go_num,by omega,by omega,Hd ⟨K2.more HM.1 HM.2.1 HM.2.2.1 HM.2.2.2 (by omega) MK EY (by first|exact HW.2|exact λ_=>HW.2 trivial),λh=>by omega⟩⟩
    case measure=>simp[intOf]<;>omega
  ·obtain rfl:j=l.length:=by omega
   have HE:=Hd HW.1.fin;have MP:=vk 8 nn (by omega);have y1:¬9223372036854775807<(ve nn).length+sb.size:=by omega
   go_wp2_with (go_at_call 57;refine(yD nn (by omega)).mono ?_;rintro e w3 ⟨rfl,fM⟩;have K3:=Hd (HW.1.below fM);clear fM)
   go_ret2;obtain⟨q1,q2⟩:=PY HE.o;rw[q1,q2];exact⟨rfl,K3.b⟩
theorem q3c {v:ac} {l:List Chg} (hv:IQ w v l) (hl:l.length<=1000000) (hk:∀p∈l,p.k.length<=8/\p.v.length<=12):ax prog 38 #[v] w λe w'=>e=.returned (.tuple #[.string (bsB (lJ l).1),.int .i64 ((lJ l).2:Nat)])/\aq w.heap.size w w':=by
 have HF:=Hd (q3k hv hl hk);generalize bsB (lJ l).1=lb at*;generalize (lJ l).2=ln at*;clear hv hl hk;go_enter func38,ntmps38;go_wp2_with (go_at_call 59;refine HF.mono ?_;rintro e w1 ⟨rfl,h1⟩;have H1:=Hd h1;clear h1)
 go_ret2;exact⟨rfl,H1.o⟩
end
theorem Ko (l:Bs):match vo l with
  |some p=>jV l false=(p.1,p.2,false)
  |none=>(jV l false).2=([],true):=by
 have h:=Ap 4 true 0 1 l;unfold vo yh jV;cases hn:mX 4 true 0 1 l with
 |none=>
  rw[hn]at h;simp only at h;rw[aR];show(takeC _ (gV 4 true 0 1 l false).2.1 (gV 4 true 0 1 l false).2.2).2=_;rw[h];unfold takeC;split<;>simp
 |some p=>
  rw[hn]at h;simp only at h;rw[h,ae];unfold takeC;by_cases e:p.2.length<p.1
  ·simp only[if_pos e]
  ·simp only[if_neg e]
theorem Az (k:Nat) (first:Bool) (a m:Nat):(gV k first a m [] true).2=([],true):=by
 cases k<;>cases first<;>rfl
theorem Ev:(jV [] true).2=([],true):=by
 unfold jV takeC;rw[Az];split<;>simp
def frC (l:Bs):Fr×Bs×Bool:=
 let c1:=iy l false
 let c2:=iy c1.2.1 c1.2.2
 let c3:=gV 4 true 0 1 c2.2.1 c2.2.2
 let c4:=gV 4 true 0 1 c3.2.1 c3.2.2
 let c5:=jV c4.2.1 c4.2.2
 (⟨c1.1.toNat,c2.1.toNat,c3.1,c4.1,c5.1⟩,c5.2)
theorem q84 (l:Bs):match parse l with
  |some f=>frC l=(f,[],false)
  |none=>(!(frC l).2.2&&(frC l).2.1.isEmpty)=false:=by
 have bad:∀(f:Bs->Bool->Bs×Bool),True:=λ_=>trivial;match l with
 |[]=>simp only[parse,frC,iy];rw[Az,Az,Ev];rfl
 |[k]=>simp only[parse,frC,iy];rw[Az,Az,Ev];rfl
 |k::sh::r=>
  simp only[parse,frC,iy];have h1:=Ap 4 true 0 1 r;unfold yh;cases e1:mX 4 true 0 1 r with
  |none=>
   rw[e1]at h1;simp only at h1;rw[aR];simp only;rw[h1];simp only;rw[Az,Ev];rfl
  |some p=>
   rw[e1]at h1;simp only at h1;rw[ae,h1];simp only;have h2:=Ap 4 true 0 1 p.2;cases e2:mX 4 true 0 1 p.2 with
   |none=>
    rw[e2]at h2;simp only at h2;rw[aR];simp only;rw[h2,Ev];rfl
   |some q=>
    rw[e2]at h2;simp only at h2;rw[ae,h2];simp only;have h3:=Ko q.2;cases e3:vo q.2 with
    |none=>
     rw[e3]at h3;simp only at h3;rw[aR];simp only;rw[h3];rfl
    |some t=>
     rw[e3]at h3;simp only at h3;rw[ae,h3];simp only;by_cases e:t.2=[]
     ·rw[if_pos e,e]
     ·rw[if_neg e];simpa using e
def frV (f:Fr):ac:=.agg #[.int .u8 f.kind,.int .i64 f.qc,.int .i64 f.id,.int .i64 f.n,sv f.load]
def j6 (v:Fr->ac) (w:aa) (l:Bs) (e:bG) (w':aa):Prop:=(match xg l with
  |some f=>e=.returned (.tuple #[v f,.bool true])
  |none=>∃f,e=.returned (.tuple #[v f,.bool false]))/\But (λ_=>False) w w'
theorem QL (x i:Nat) (hi:i<4):(le4 x)[i]?=some (b8 (x/2^(8*i))):=by
 match i,hi with
 |0,_|1,_|2,_|3,_=>simp[le4]
structure RdW (w wr:aa):Prop where
 r:wr.heap[w.heap.size]?=some (.cells #[.int .u8 0,.int .i64 0,.int .i64 0,.int .i64 0,.string ⟨#[]⟩] 78 (0,0))
 b:But (λ_=>False) w wr
section
variable {w wr w2:aa} {cb:Nat} {l:Bs} {bad:Bool}
theorem RdW.of (w:aa):RdW w (w.alloc (.cells #[.int .u8 0,.int .i64 0,.int .i64 0,.int .i64 0,.string ⟨#[]⟩] 78)):=⟨aC _ _,But.of_below ((j5 _ _).alloc (jd _) _)⟩
theorem RdW.lt (h:RdW w wr):w.heap.size<wr.heap.size:=(kg h.r).1
theorem RdW.below (h:RdW w wr) (hb:aq wr.heap.size wr w2):RdW w w2:=⟨(hb.block _ h.lt).trans h.r,h.b.trans (But.of_below hb)⟩
theorem But.top {B:Nat->Prop} {w0:aa} (h:But B w0 w) {C:Nat->Prop} (k:But C w w2) (hc:∀b,C b->B b\/w0.heap.size<=b):But B w0 w2:=⟨xlt h.size k.size,λi hi hb=>(k.keep i (xll hi h.size) λx=>(hc i x).elim hb λy=>by omega).trans (h.keep i hi hb),k.os.trans h.os,k.output.trans h.output⟩
theorem RdW.but (h:RdW w wr) (hc:w.heap.size<cb) (hb:But (· =cb) wr w2):RdW w w2:=⟨(hb.keep _ h.lt (by omega)).trans h.r,h.b.top hb λb e=>.inr (by omega)⟩
theorem RdW.cells (h:RdW w wr):wr.cell? ⟨w.heap.size,0,none⟩=some (.int .u8 0)/\wr.cell? ⟨w.heap.size,1,none⟩=some (.int .i64 0)/\wr.cell? ⟨w.heap.size,2,none⟩=some (.int .i64 0)/\wr.cell? ⟨w.heap.size,3,none⟩=some (.int .i64 0)/\wr.cell? ⟨w.heap.size,4,none⟩=some (.string ⟨#[]⟩)/\∀j,wr.frozen? ⟨w.heap.size,j,none⟩=false:=
 ⟨by simp[ag,h.r],by simp[ag,h.r],by simp[ag,h.r],by simp[ag,h.r],by simp[ag,h.r],λj=>by simp[aw,h.r]⟩
theorem RdW.drewN (h:RdW w wr) (n:Nat):RdW w (wr.drewN n):=⟨h.r,h.b.size,h.b.keep,h.b.os,h.b.output⟩
theorem But.fresh (h:But (· =w.heap.size) w wr):But (λ_=>False) w wr:=⟨h.size,λb hb _=>h.keep b hb (by omega),h.os,h.output⟩
theorem RdW.b' (h:RdW w wr):But (· =w.heap.size) w wr:=h.b.mono λ_ e=>e.elim
theorem jaa (h:But (· =w.heap.size) w wr) (a b c d e:ac) (o:Obj):But (· =w.heap.size) w ((((((wr.setCell ⟨w.heap.size,0,none⟩ a).setCell ⟨w.heap.size,1,none⟩ b).setCell ⟨w.heap.size,2,none⟩ c).setCell ⟨w.heap.size,3,none⟩ d).setCell ⟨w.heap.size,4,none⟩ e).alloc o):=(But.setCell (But.setCell (But.setCell (But.setCell (But.setCell h rfl _ _) rfl _ _) rfl _ _) rfl _ _) rfl _ _).trans (But.of_below ((j5 _ _).alloc (jd _) _))
theorem j6.no {v:Fr->ac} {f:Fr} (h:xg l=none) (hb:But (λ_=>False) w wr):j6 v w l (.returned (.tuple #[v f,.bool false])) wr:=by
 unfold j6;rw[h];exact⟨⟨f,rfl⟩,hb⟩
theorem Ud (hn:s.size=n+4) (hj:j<4):s.data.toList[n+j]?=some (s[n+j]'(by omega)):=by
 have h:n+j<s.size:=by omega
 rw[aK (by simpa using h)];simp[ao]
theorem Qo:(b8 (C/2^(8*j))).toNat=C/2^(8*j)%256:=by simp[b8]
theorem q5b (hn:s.size=n+4) (hl:(s.extract 0 n).data.toList=s.data.toList.take n) (hC:chk (s.extract 0 n).data.toList=C) (hj:j<4) (h:¬((s[n+j]'(by omega)).toNat:Int)=(C:Int)/2^(8*j)%256):xg s.data.toList=none:=by
 have hz:s.data.toList.length=n+4:=by simpa using hn
 unfold xg;rw[if_neg (by omega),hz,show n+4-4=n by omega,<-hl,hC];rw[if_neg];intro e;have e1:(s.data.toList.drop n)[j]?=(le4 C)[j]?:=by rw[e]
 rw[aM,Ud hn hj,QL _ _ hj]at e1;have e2:=congrArg UInt8.toNat (xoi e1);rw[Qo]at e2;apply h;rw[e2];simp
theorem q5a (hn:s.size=n+4) (hp:∀i,i<j->s.data.toList[n+i]?=(le4 C)[i]?) {hj:n+j<s.size} (h:((s[n+j]'hj).toNat:Int)=(C:Int)/2^(8*j)%256):∀i,i<j+1->s.data.toList[n+i]?=(le4 C)[i]?:=λi hi=>by
 rcases cq i j with h1|h1
 ·exact hp i h1
 ·obtain rfl:i=j:=by omega
  rw[Ud hn (by omega),QL _ _ (by omega)];congr 1;apply UInt8.toNat_inj.1;rw[Qo];have e:((C:Int)/2^(8*i)%256)=((C/2^(8*i)%256:Nat):Int):=by simp
  omega
theorem jac (hn:s.size=n+4) (hl:(s.extract 0 n).data.toList=s.data.toList.take n) (hC:chk (s.extract 0 n).data.toList=C) (hp:∀i,i<4->s.data.toList[n+i]?=(le4 C)[i]?):xg s.data.toList=parse (s.extract 0 n).data.toList:=by
 have hz:s.data.toList.length=n+4:=by simpa using hn
 unfold xg;rw[if_neg (by omega),hz,show n+4-4=n by omega,<-hl,hC,if_pos];apply List.ext_getElem?;intro i;rw[aM];rcases cq i 4 with h|h
 ·exact hp i h
 ·rw[bk (by omega),bk (by simpa[le4]using h)]
theorem jab {L0:Bs} {v:Fr} {r:Bs×Bool} (h1:xg l=parse L0) (h2:frC L0=(v,r)) (hb:But (λ_=>False) w wr):j6 frV w l (.returned (.tuple #[frV v,.bool (!r.2&&r.1.isEmpty)])) wr:=by
 have h:=q84 L0;unfold j6;rw[h1];cases hp:parse L0 with
 |none=>
  rw[hp,h2]at h;exact⟨⟨v,by rw[h]⟩,hb⟩
 |some f=>
  rw[hp,h2]at h;simp only[aS]at h;obtain⟨rfl,rfl⟩:=h;exact⟨rfl,hb⟩
theorem tZ (s:ByteArray) (hs:s.size<=1073741824):ax prog 40 #[.string s] w (j6 frV w s.data.toList):=by
 have HW:=Hd (RdW.of w);by_cases h4:s.size<4
 ·have HR:Hid (xg s.data.toList=none):=Hd (by unfold xg;rw[if_pos (by simpa using h4)]);unfold j6;rw[HR.o];have g1:decide ((s.size:Int)-4<0)=true:=xdt (by omega);have hz:(s.size:Int)<4:=by omega
  go_enter func40,ntmps40;go_wp2;obtain⟨r0,r1,r2,r3,r4,fr⟩:=HW.cells;have BZ:=HW.lt;refine bE (v:=.tuple #[frV ⟨0,0,0,0,[]⟩,.bool false]) (by simp[results,Tryz.results40,go_sem,frV,sv]) rfl ⟨⟨_,rfl⟩,?_⟩;exact HW.b
 ·obtain⟨n,hn⟩:∃n,s.size=n+4:=⟨s.size-4,by omega⟩
  have g1:decide ((s.size:Int)-4<0)=false:=xdf (by omega);have hz:(s.size:Int)-4=n:=by omega
  have pq:n<=s.size:=by omega
  have HC:=Hd (P9 (s.extract 0 n).data.toList);have HL:Hid ((s.extract 0 n).data.toList=s.data.toList.take n/\s.data.toList.length=n+4):=Hd ⟨by rw[ext_list];rfl,by simpa using hn⟩;have HN:=Hd hn;clear hn;go_enter func40,ntmps40;go_wp2_with (go_at_call 61;refine(QE (s.extract 0 n) (by simp;omega)).mono ?_;rintro e w2 ⟨rfl,rfl⟩;obtain⟨C,hC⟩:∃C,chk (s.extract 0 n).data.toList=C:=⟨_,rfl⟩;rw[hC]at HC⊢;replace hC:=Hd hC)
  go_loopw [19] (λi wr=>∃j:Nat,j<=4/\i=.int .i64 j/\Hid (RdW w wr/\∀i,i<j->s.data.toList[n+i]?=(le4 C)[i]?)) (λi _=>4-(intOf i).toNat);case atStart=>exact⟨0,by omega,rfl,Hd ⟨HW.o,λi hi=>by omega⟩⟩
  case round=>
   obtain⟨j,hj,rfl,HJ⟩:=hrel;by_cases xG:j<4
   ·have Jf:n+j<s.size:=by have:=HN.o;omega
    have qP:((n:Int)+j<s.size):=by omega
    have hi3:IntKind.i64.wrap ((n:Int)+j)=n+j:=by rw[IntKind.wrap_i64];omega
    have vP:(0:Int)<=n+j:=by omega
    obtain⟨r0,r1,r2,r3,r4,fr⟩:=HJ.1.cells;have BZ:=HJ.1.lt;go_wp2;go_quiet (fail);go_wp2
    ·refine bE (v:=.tuple #[frV ⟨0,0,0,0,[]⟩,.bool false]) (by simp[results,Tryz.results40,go_sem,frV,sv,BZ,r0,r1,r2,r3,r4,fr]) rfl ?_;rename_i eG;refine j6.no (q5b HN.o HL.1 hC.out xG (by simpa using eG)) ?_;exact(But.setCell (But.setCell (But.setCell (But.setCell (But.setCell (HJ.1.drewN nq).b' rfl _ _) rfl _ _) rfl _ _) rfl _ _) rfl _ _).fresh
    ·rename_i heq;go_roundw;case rel=>exact⟨j+1,by omega,by go_num,Hd ⟨HJ.1.drewN nq,q5a HN.o HJ.2 (by simpa using heq)⟩⟩
     case measure=>simp[intOf];omega
   ·obtain rfl:j=4:=by omega
    obtain⟨L0,Nh⟩:∃L,(s.extract 0 n).data.toList=L:=⟨_,rfl⟩
    have K0:Hid (jW (wr.alloc (.cells #[.string (s.extract 0 n),.bool false] 125)) wr.heap.size L0 false/\RdW w (wr.alloc (.cells #[.string (s.extract 0 n),.bool false] 125))):=Hd ⟨by unfold jW;rw[aC,jb Nh],HJ.1.below ((j5 _ _).alloc (jd _) _)⟩;have eB:=HJ.1.lt;have E0:=Hd Nh;obtain⟨c1,e1⟩:∃c,iy L0 false=c:=⟨_,rfl⟩
    obtain⟨c2,e2⟩:∃c,iy c1.2.1 c1.2.2=c:=⟨_,rfl⟩
    obtain⟨c3,e3⟩:∃c,gV 4 true 0 1 c2.2.1 c2.2.2=c:=⟨_,rfl⟩
    obtain⟨c4,e4⟩:∃c,gV 4 true 0 1 c3.2.1 c3.2.2=c:=⟨_,rfl⟩
    obtain⟨c5,e5⟩:∃c,jV c4.2.1 c4.2.2=c:=⟨_,rfl⟩
    obtain⟨ld,fH⟩:=qh c5.1;obtain⟨sr,sQ⟩:=qh c5.2.1;have E1:=Hd e1;have E2:=Hd e2;have E3:=Hd e3;have E4:=Hd e4;have E5:=Hd e5;have E6:=Hd fH;have E7:=Hd sQ;clear e1 e2 e3 e4 e5 Nh fH sQ;go_wp2_with (first
     |(go_at_call 62;refine(Eg K0.1).mono ?_;rw[E1.o];rintro e w2 ⟨rfl,h1,h2⟩;have K1:=Hd (ah h1 (K0.2.but eB h2));clear h1 h2)
     |(go_at_call 62;refine(Eg K1.1).mono ?_;rw[E2.o];rintro e w3 ⟨rfl,h1,h2⟩;have K2:=Hd (ah h1 (K1.2.but eB h2));clear h1 h2)
     |(go_at_call 63;refine(Ao K2.1).mono ?_;rw[E3.o];rintro e w4 ⟨rfl,h1,h2⟩;have K3:=Hd (ah h1 (K2.2.but eB h2));clear h1 h2)
     |(go_at_call 63;refine(Ao K3.1).mono ?_;rw[E4.o];rintro e w5 ⟨rfl,h1,h2⟩;have K4:=Hd (ah h1 (K3.2.but eB h2));clear h1 h2)
     |(go_at_call 64;refine(wJ K4.1).mono ?_;rw[E5.o,jb E6.o];rintro e w6 ⟨rfl,h1,h2⟩;have K5:=Hd (ah h1 (K4.2.but eB h2));obtain⟨NC,eU,_⟩:=h1.cells E7.o;obtain⟨r0,r1,r2,r3,r4,fr⟩:=K5.2.cells;clear h1 h2))
    have pz:wrap64 (c2.1.toNat:Int)=(c2.1.toNat:Int):=by have:=yK c2.1;unfold wrap64;omega
    rw[pz];have BZ:=K5.2.lt;have clt:wr.heap.size<w6.heap.size:=(kg K5.1).1;have HV:Hid (frC L0=(⟨c1.1.toNat,c2.1.toNat,c3.1,c4.1,c5.1⟩,c5.2)):=Hd (by unfold frC;simp only[E1.o,E2.o,E3.o,E4.o,E5.o]);have HF:∀(b:Bool) (w':aa),(!c5.2.2&&c5.2.1.isEmpty)=b->But (λ_=>False) w w'->j6 frV w s.data.toList (.returned (.tuple #[.agg #[.int .u8 c1.1.toNat,.int .i64 c2.1.toNat,.int .i64 c3.1,.int .i64 c4.1,.string ld],.bool b])) w':=λb w' hb h=>by
     rw[<-hb];have:=jab (jac HN.o HL.1 hC.out HJ.2) (E0.symm▸HV.o) h;unfold frV at this;rwa [jb E6.o]at this
    have HH:=Hd HF;have HB6:=Hd K5.2.b';clear HF;have OH:sr.toList.isEmpty=c5.2.1.isEmpty:=by rw[aA,E7.o]
    cases Vf:c5.2.2<;>cases gM:c5.2.1.isEmpty;all_goals
     rw[Vf]at eU;rw[gM]at OH;go_region;go_wp2;refine bE (v:=.tuple #[.agg #[.int .u8 c1.1.toNat,.int .i64 c2.1.toNat,.int .i64 c3.1,.int .i64 c4.1,.string ld],.bool (!c5.2.2&&c5.2.1.isEmpty)]) (by rw[Vf,gM];simp[results,Tryz.results40,go_sem,BZ,r0,r1,r2,r3,r4,fr,clt]) rfl (HH.o _ _ rfl (jaa HB6.o _ _ _ _ _ _).drew.fresh)
end
structure RSg where
 h:Nat
 k:Nat
 x:Sg
 v:ac
def jco (l:List RSg):List ac:=l.flatMap λe=>[.int .i64 e.h,.int .i64 e.k,.int .i64 e.x.id,.int .i64 e.x.next,e.v,.bool e.x.done]
structure MA where
 ml:Nat
 sb:Nat
 lv:Nat->ac
 mp:Nat->Option Nat
 pv:Nat->ac
 cv:Nat->ac
 sg:ac
 cap:Nat
 sl:List RSg
def q5c (B:MA) (s:St):Array ac:=#[.int .i64 s.hosts,.slice (some ⟨B.sb,0,none⟩) 4 B.cap,B.sg,.int .i64 s.id,.int .i64 s.ep]
def QU (pv cv:ac) (m:Mv):Array ac:=#[.int .i64 m.id,.int .i64 m.fr,.int .i64 m.to,pv,cv,sv m.sent,.int .i64 m.n,.int .i64 m.kind,.int .i64 m.parts,.bool m.sealed]
def UN (w:aa) (v:ac) (l:List Chg):Prop:=jr w 152 3 v l.length (jM l)
def mY (w:aa) (v:ac) (l:List Chg):Prop:=w.ownsRow 0 152 3 v l.length (jM l)
def jb3 (w:aa) (F:Nat->Prop) (B:MA) (i:Nat):Option Mv->Prop
 |none=>B.mp i=none/\(B.cv i).ownBlock=none
 |some m=>∃g,B.mp i=some g/\F g/\w.heap[g]?=some (.cells (QU (B.pv i) (B.cv i) m) 196 (0,0))/\sF w (B.pv i) m.ps/\UN w (B.cv i) m.cs/\(∀b,(B.pv i).ownBlock=some b->F b)/\∀b,(B.cv i).ownBlock=some b->F b
structure q8l (w:aa) (F:Nat->Prop) (B:MA) (sg:Nat->Nat->Option Sg):Prop where
 r:w.ownsRow 0 214 6 B.sg B.sl.length (jco B.sl)
 rF:∀b,B.sg.ownBlock=some b->F b
 e:∀e∈B.sl,e.h<4/\e.k<4/\sg e.h e.k=some e.x/\jH w 0 e.v e.x.kv/\∀b,e.v.ownBlock=some b->F b
 nd:B.sl.Pairwise λa b=>¬(a.h=b.h/\a.k=b.k)
 all:∀h k,h<4->k<4->(sg h k).isSome=true->∃e∈B.sl,e.h=h/\e.k=k
structure MAt (w:aa) (F:Nat->Prop) (B:MA) (s:St):Prop where
 ml:F B.ml/\w.heap[B.ml]?=some (.cells (q5c B s) 188 (0,0))
 sb:F B.sb/\∃cur,w.heap[B.sb]?=some (.cells cur 191 (0,0))/\∀i,i<4->cur[i*3]?=some (.int .i64 (s.ow i))/\cur[i*3+1]?=some (B.lv i)/\cur[i*3+2]?=some (.pointer (mpA (B.mp i)))
 r:∀i,i<4->jH w 0 (B.lv i) (s.kv i)/\∀b,(B.lv i).ownBlock=some b->F b
 mv:∀i,i<4->jb3 w F B i (s.mv i)
 mpi:∀i j g,i<4->j<4->B.mp i=some g->B.mp j=some g->i=j
 cvi:∀i j g,i<4->j<4->(B.cv i).ownBlock=some g->(B.cv j).ownBlock=some g->i=j
 stg:q8l w F B s.sg
section
variable {w w':aa} {F F':Nat->Prop} {B:MA} {s:St} {n:Nat}
structure RX (x:Nat) (pv cv:ac) (m:Mv) (w:aa):Prop where
 b:w.heap[x]?=some (.cells (QU pv cv m) 196 (0,0))
 r:UN w cv m.cs
end
def TN (h:Nat):Nat->List ac
 |0=>[]
 |j+1=>TN h j++[.int .i64 ((j:Int).tmod (h:Int)),.slice none 0 0,.pointer none]
theorem cells3 (w:aa) (a b c:ac) (ty:ay):∀(j:Nat) (u:ac),[a,b,c][j]?=some u->(w.alloc (.cells #[a,b,c] ty)).cell? ((⟨w.heap.size,0,none⟩:Addr).add j)=some u:=λj u hj=>by
 rw[aI,aN];match j,hj with
 |0,hj=>simp at hj;subst hj;go_simp
 |1,hj=>simp at hj;subst hj;go_simp
 |2,hj=>simp at hj;subst hj;go_simp
structure RNew (W w:aa) (h ml j:Nat) (S:ac):Prop where
 b:w.heap[ml]?=some (.cells #[.int .i64 h,S,.slice none 0 0,.int .i64 0,.int .i64 0] 188 (0,0))
 row:w.ownsRow (ml+1) 191 3 S j (TN h j)
 lo:W.heap.size<=ml
 below:aq W.heap.size W w
section
variable {W w w1 w3:aa} {h ml j:Nat} {S:ac}
def kz (h:Nat):St:=⟨h,λi=>i%h,λ_=>[],λ_=>none,λ_ _=>none,0,0⟩
theorem q13 (i h:Nat):((i:Int).tmod (h:Int))=((i%h:Nat):Int):=by
 rw[Int.tmod_eq_emod_of_nonneg (Int.natCast_nonneg i)];rfl
end
theorem Kj:∃i,prog.info? 109=some i/\i.zero=some (.agg #[.string ⟨#[]⟩,.string ⟨#[]⟩,.bool false])/\i.size=3/\i.bytes=40:=by
 have h:(prog.info? 109).map (λi=>(i.zero,i.size,i.bytes))=some (some (.agg #[.string ⟨#[]⟩,.string ⟨#[]⟩,.bool false]),3,40):=by kernel_rfl
 obtain⟨i,h1,h2⟩:=bh.1 h;injection h2 with h2 h3;injection h3 with h3 h4;exact⟨i,h1,h2,h3,h4⟩
def Gh (k v:ByteArray) (g:Bool):Chg:=⟨k.data.toList,v.data.toList,g⟩
def csL (L:KV) (cs:List Chg) (k v:ByteArray) (g:Bool):List Chg:=if nN L k.data.toList v.data.toList g=0 then cs++[Gh k v g]else cs
structure MX (x n:Nat) (pv cv:ac) (ld:ByteArray) (m:Mv) (w:aa):Prop where
 b:w.heap[x]?=some (.cells (qf n pv cv ld m) 80 (0,0))
 r:oZ w cv m.cs
section
variable {w w':aa} {cl db mb x n:Nat} {L:KV} {pv cv:ac} {ld:ByteArray} {m:Mv}
theorem za {m:Nat} {L:KV} {cur:Array ac} {ty:ay} (hm:jh w m L) (hb:w.heap[b]?=some (.cells cur ty (0,0))):b≠m:=λe=>by
 obtain⟨es,ck,h,_⟩:=hm;rw[e,h]at hb;cases hb
theorem MX.lt (h:MX x n pv cv ld m w):x<w.heap.size:=(kg h.b).1
theorem MX.below (h:MX x n pv cv ld m w) (hb:aq w.heap.size w w'):MX x n pv cv ld m w':=⟨(hb.block _ h.lt).trans h.b,h.r.block λg hg=>hb.block g (jr.lt h.r hg)⟩
theorem MX.but (h:MX x n pv cv ld m w) (hm:jh w mb L) (hb:But (· =mb) w w'):MX x n pv cv ld m w':=⟨(hb.keep _ h.lt (za hm h.b)).trans h.b,h.r.block λg hg=>hb.keep g (jr.lt h.r hg) (by
 obtain⟨c,hc⟩:=jr.ty h.r hg
 exact za hm hc)⟩
theorem MX.cells (h:MX x n pv cv ld m w):w.cell? ⟨x,4,none⟩=some cv/\w.cell? ⟨x,12,none⟩=some (.bool m.sealed)/\w.frozen? ⟨x,4,none⟩=false:=⟨by simp[ag,h.b,qf],by simp[ag,h.b,qf],by simp[aw,h.b]⟩
def ChM (cb cl n db mb x:Nat) (pv cv:ac) (ld:ByteArray) (m:Mv) (L:KV) (k v:ByteArray) (g:Bool) (w:aa):Prop:=ChW cb cl n db mb (some ⟨x,0,none⟩) L k v g w/\MX x n pv cv ld m w
theorem Sk {W:aa} {v:ByteArray} (h:A/\B/\Hid (ChM W.heap.size cl n db mb x pv cv ld m L k v g w1/\aq W.heap.size W w1)) (hk:k.size<=az):
  ax prog 52 #[.pointer (some ⟨db,0,none⟩),.string k] w1 λe w'=>(e=.returned (.tuple #[sv ((qz L k.data.toList).getD []),.bool (qz L k.data.toList).isSome]))/\ChM W.heap.size cl n db mb x pv cv ld m L k v g w'/\aq W.heap.size W w':=
 (JM h.2.2.out.1.1.m h.2.2.out.1.1.l k hk).mono λe w' ⟨h1,h2⟩=>⟨h1,⟨h.2.2.out.1.1.below h2,h.2.2.out.1.2.below h2⟩,h.2.2.out.2.trans (h2.mono h.2.2.out.2.size)⟩
def ChB (mb x:Nat) (cv:ac) (b:Nat):Prop:=b=mb\/b=x\/cv.ownBlock=some b
def Gw (w:aa) (mb x n:Nat) (pv cv:ac) (ld:ByteArray) (m:Mv) (L':KV) (fU:List Chg) (c:Int) (e:bG) (w':aa):Prop:=
 e=.returned (.int .i64 c)/\jh w' mb L'/\(∃cv',MX x n pv cv' ld {m with cs:=fU} w'/\∀b,cv'.ownBlock=some b->cv.ownBlock=some b\/w.heap.size<=b)/\But (ChB mb x cv) w w'
theorem Gw.idle {c:Int} (h:MX x n pv cv ld m w') (hm:jh w' mb L) (hb:aq w.heap.size w w'):Gw w mb x n pv cv ld m L m.cs c (.returned (.int .i64 c)) w':=⟨rfl,hm,⟨cv,h,λ_ h=>.inl h⟩,But.of_below hb⟩
theorem ql6 (k v:ByteArray) (g:Bool) (n:Nat) (hn:n<4) (hk:iL k.data.toList=true) (kU:q9 k.data.toList=n) (iD:k.size<=az) (hL:L.length<=12) (hp:qN w cl n db mb (some ⟨x,0,none⟩) L) (hx:MX x n pv cv ld m w) (hs:m.sealed=true):
  ax prog 50 #[.pointer (some ⟨cl,0,none⟩),.agg #[.string k,.string v,.bool g]] w (UM (if 12<v.data.toList.length then 3 else 5) w):=by
 have Bc:((n:Int)<4):=by omega
 have HX:=Hd hx;have HS:=Hd hs;obtain⟨cd,Na⟩:∃cd:Int,(if 12<v.data.toList.length then(3:Int)else 5)=cd:=⟨_,rfl⟩
 rw[Na];have V6:=Hd Na;clear hx hs Na;go_enter func50,ntmps50;go_wp2_with (go_at_call 51;refine(Ee _ _ hk).mono ?_;rintro e w1 ⟨rfl,hb⟩;rw[kU])
 obtain⟨jA,nG⟩:=ChW.of hp hb;clear hb hp;have FL:=Hd nG;have oU:=Hd (ah jA (HX.below nG));obtain⟨c0,c1,c2,pd,pv',pm,pl⟩:=id jA;clear nG jA pl;go_region_held3 (λw'=>w'.cell? ⟨cl,1+n*3+1,none⟩=some (.pointer (some ⟨db,0,none⟩))/\w'.cell? ⟨w.heap.size,0,none⟩=some (.string k)/\Hid (ChM w.heap.size cl n db mb x pv cv ld m L k v g w'/\aq w.heap.size w w'))
  (first|exact⟨pd,c0,Hd ⟨⟨oU.1.drew,oU.2.below (Below.drew (j5 _ _))⟩,FL.drew⟩⟩|exact⟨(iG.1).1.d,(iG.1).1.c0,iG⟩)
  (first|(go_at_call 52;refine(Sk (by assumption) iD).mono ?_;rintro e w2 ⟨rfl,lm⟩;have iG:=Hd lm;clear lm))
 obtain⟨e0,e1,e2,ed,ev,em,el⟩:=iG.1.1;obtain⟨q1,q2,q3⟩:=iG.1.2.cells;rw[HS.o]at q2;clear el;by_cases jR:12<v.size
 ·have HE:Hid (cd=3):=Hd (V6.symm.trans (if_pos (by simpa using jR)));have g1:decide ((12:Int)<v.size)=true:=by simp;omega
  go_wp2;go_ret;exact⟨by rw[HE.o];rfl,iG.2⟩
 ·have HE:Hid (cd=5):=Hd (V6.symm.trans (if_neg (by simpa using jR)));have g1:decide ((12:Int)<v.size)=false:=by simp;omega
  go_wp2;go_ret;exact⟨by rw[HE.o];rfl,iG.2⟩
end
def iM (n:Nat) (k v:Bs):Bool:=iL k&&q9 k==n&&decide (v.length<=12)
def wu (n:Nat):Nat->Bs->Bs->Option (List Chg×Bs)
 |0,_,l=>some ([],l)
 |k+1,last,l=>(yh l).bind λp=>if last.length<p.1 then none else(vo p.2).bind λt=>(vo t.2).bind λv=>
   if iM n (last.take p.1++t.1) v.1&&aH last (last.take p.1++t.1)then(wu n k (last.take p.1++t.1) v.2).map λr=>(⟨last.take p.1++t.1,v.1,false⟩::r.1,r.2)else none
def qG (n:Nat):Nat->Bs->Option (List Chg×Bs)
 |0,l=>some ([],l)
 |_+1,[]=>none
 |k+1,b::l=>if b.toNat<1||2<b.toNat then none else(vo l).bind λt=>(if b.toNat==1 then vo t.2 else some ([],t.2)).bind λv=>
   if iM n t.1 v.1 then(qG n k v.2).map λr=>(⟨t.1,v.1,b.toNat==2⟩::r.1,r.2)else none
def whole (out:List Chg) (r:List Chg×Bs):Option (List Chg):=if r.2.isEmpty&&!(out++r.1).isEmpty then some (out++r.1)else none
def unblock (n:Nat) (l:Bs):Option (List Chg):=(yh l).bind λc=>(wu n c.1 [] c.2).bind (whole [])
def uf (n:Nat) (l:Bs):Option (List Chg):=(yh l).bind λc=>(qG n c.1 c.2).bind (whole [])
theorem K8 (out:List Chg) (c:Chg) (o:Option (List Chg×Bs)):(o.map λr=>(c::r.1,r.2)).bind (whole out)=o.bind (whole (out++[c])):=by
 cases o with
 |none=>rfl
 |some r=>simp[whole]
theorem QG (l:Bs) (k:Nat):aH l (l.take k)=false:=by
 induction l generalizing k with
 |nil=>cases k<;>rfl
 |cons a l ih=>
  cases k with
  |zero=>rfl
  |succ k=>simp[aH,ih]
theorem G7 {l:Bs} (h:vo l=none):jV l false=([],[],true):=by
 have h1:=Ko l;rw[h]at h1;simp only at h1;refine Prod.ext ?_ h1;unfold jV takeC at h1⊢;split
 ·rfl
 ·rename_i eB;rw[if_neg eB]at h1;simp only[aS]at h1;show List.take _ _=[];have h2:=Ap 4 true 0 1 l;cases hn:mX 4 true 0 1 l with
  |none=>rw[hn]at h2;simp only at h2;rw[h2];simp
  |some p=>rw[hn]at h2;simp only at h2;rw[h2]at h1;simp at h1
theorem Y7:jV [] true=([],[],true):=by
 refine Prod.ext ?_ Ev;unfold jV takeC;rw[Az];split<;>simp
theorem yR {l:Bs} {p:Bs×Bs} (h:vo l=some p):jV l false=(p.1,p.2,false):=by
 have h1:=Ko l;rw[h]at h1;exact h1
theorem Qr {l:Bs} (h:yh l=none):(gV 4 true 0 1 l false).2=([],true):=by
 have h1:=Ap 4 true 0 1 l;unfold yh at h;rw[h]at h1;exact h1
theorem GN {l:Bs} {p:Nat×Bs} (h:yh l=some p):gV 4 true 0 1 l false=(p.1,p.2,false):=by
 have h1:=Ap 4 true 0 1 l;unfold yh at h;rw[h]at h1;exact h1
theorem WY (n:Nat) (v:Bs):iM n [] v=false:=rfl
def xW (n k:Nat) (last l:Bs) (bad:Bool) (out:List Chg):Option (List Chg):=if bad then none else(wu n k last l).bind (whole out)
theorem AA (l:Bs) (bad:Bool):(jV l bad).1.length<=l.length/\(jV l bad).2.1.length<=l.length:=by
 have h:=CO 4 true 0 1 l bad;unfold jV takeC;split
 ·exact⟨xzl _,xzl _⟩
 ·simp only[bd,aQ];omega
theorem Qs (a m:Nat) (b:UInt8) (l:Bs) (bad:Bool):(gV 4 true a m (b::l) bad).2.1.length<=l.length:=by
 rw[gV];split
 ·exact xzl _
 ·split
  ·exact jd _
  ·exact CO ..
theorem GV {k v:Bs} (h:iM n k v=true):k.length<=8:=by
 simp only[iM,iL,aJ,decide_eq_true_eq]at h;exact h.1.1.2.1
theorem Zk (n k:Nat) (last l:Bs) (out:List Chg):
  let c1:=gV 4 true 0 1 l false
  let c2:=jV c1.2.1 c1.2.2
  let c3:=jV c2.2.1 c2.2.2
  let key:=last.take c1.1++c2.1
  (last.length<c1.1->xW n (k+1) last l false out=none)/\((iM n key c3.1&&aH last key)=false->xW n (k+1) last l false out=none)/\
   (¬last.length<c1.1->(iM n key c3.1&&aH last key)=true->xW n (k+1) last l false out=xW n k key c3.2.1 c3.2.2 (out++[⟨key,c3.1,false⟩])/\c3.2.1.length<l.length/\key.length<=8):=by
 simp only[xW,wu,Bool.false_eq_true,if_false];cases h1:yh l with
 |none=>
  rw[Qr h1];refine⟨λ_=>rfl,λ_=>rfl,λ_ hk=>?_⟩;rw[Y7,bi,QG,bY]at hk;cases hk
 |some p=>
  have hp:p.2.length<l.length:=by
   cases l with
   |nil=>simp[yh,mX]at h1
   |cons b l=>
    have:=Qs 0 1 b l false;rw[GN h1]at this;exact Nat.lt_succ_of_le this
  have jC:([]:Bs).length<l.length:=Nat.lt_of_le_of_lt (xzl _) hp;rw[GN h1];simp only[ae];refine⟨λh=>by rw[if_pos h];rfl,?_⟩;by_cases eB:last.length<p.1
  ·rw[if_pos eB];exact⟨λ_=>rfl,λh=>(h eB).elim⟩
  ·rw[if_neg eB];cases h2:vo p.2 with
   |none=>
    rw[G7 h2];refine⟨λ_=>rfl,λ_ hk=>?_⟩;simp only at hk;rw[bi,QG,bY]at hk;cases hk
   |some t=>
    rw[yR h2];simp only[ae];cases h3:vo t.2 with
    |none=>
     rw[G7 h3];exact⟨λ_=>rfl,λ_ h=>⟨by simp,jC,GV (by simp only[aJ]at h;exact h.1)⟩⟩
    |some v=>
     rw[yR h3];simp only[ae];refine⟨λh=>by rw[if_neg (by rw[h];decide)];rfl,λ_ h=>?_⟩;rw[if_pos h,K8];refine⟨by simp,?_,GV (by simp only[aJ]at h;exact h.1)⟩;have a1:=(AA p.2 false).2;have a2:=(AA t.2 false).2;rw[yR h2]at a1;rw[yR h3]at a2;simp only at a1 a2⊢;omega
section
variable {w:aa}
theorem Cs (n:Nat) (k v:ByteArray) (hk:k.size<=az):ax prog 93 #[.int .i64 n,.string k,.string v] w λe w'=>e=.returned (.bool (iM n k.data.toList v.data.toList))/\aq w.heap.size w w':=by
 have hv:v.data.toList.length=v.size:=by simp
 unfold iM;rw[hv];clear hv;cases iY:iL k.data.toList
 ·have HC:=Hd (L9 k w iY hk);go_enter func93,ntmps93;go_wp2_with (go_at_call 51;refine HC.mono ?_;rintro e w1 ⟨rfl,h1⟩;have H1:=Hd h1;clear h1)
  go_ret;exact⟨rfl,H1.o⟩
 ·have HC:=Hd (Ee k w iY);obtain⟨m,hm⟩:∃m,q9 k.data.toList=m:=⟨_,rfl⟩
  rw[hm]at HC⊢;go_enter func93,ntmps93;go_wp2_with (go_at_call 51;refine HC.mono ?_;rintro e w1 ⟨rfl,h1⟩;have H1:=Hd h1;clear h1)
  ·rename_i h;go_ret;obtain rfl:m=n:=by omega
   exact⟨by simp;omega,H1.o⟩
  ·rename_i h;go_ret;exact⟨by simp[show¬m=n by omega],H1.o⟩
end
def wH (w:aa) (o:Option (List Chg)) (e:bG) (w':aa):Prop:=(match o with
  |some cs=>∃v,e=.returned (.tuple #[v,.bool true])/\Ce w' v cs/\∀b,v.ownBlock=some b->w.heap.size<=b
  |none=>∃v,e=.returned (.tuple #[v,.bool false]))/\But (λ_=>False) w w'
structure UnW (w:aa) (cb:Nat) (l:Bs) (bad:Bool) (v:ac) (out:List Chg) (wr:aa):Prop where
 c:jW wr cb l bad
 r:wr.ownsRow (w.heap.size+1) 109 3 v out.length (jM out)
 b:But (λ_=>False) w wr
section
variable {w wr w2:aa} {cb:Nat} {l l2:Bs} {bad D5:Bool} {v:ac} {out:List Chg}
theorem UnW.cur (h:UnW w w.heap.size l bad v out wr) (h2:jW w2 w.heap.size l2 D5) (hb:But (· =w.heap.size) wr w2):UnW w w.heap.size l2 D5 v out w2:=⟨h2,je h.r λg hg=>hb.keep g (h.r.lt g hg).2 (by have:=(h.r.lt g hg).1;omega),h.b.top hb λb e=>.inr (by omega)⟩
theorem UnW.below (h:UnW w w.heap.size l bad v out wr) (hb:aq wr.heap.size wr w2):UnW w w.heap.size l bad v out w2:=⟨(hb.block _ (kg h.c).1).trans h.c,je h.r λg hg=>hb.block g (h.r.lt g hg).2,h.b.trans (But.of_below hb)⟩
theorem UnW.app {v':ac} (h:UnW w w.heap.size l bad v out wr) (c:Chg) (h1:w1=wr.alloc o) (hg:w1.grownBy w2 v.ownBlock) (hr:w2.ownsRow (w.heap.size+1) 109 3 v' (out.length+1) (jM out++[sv c.k,sv c.v,.bool c.g])):UnW w w.heap.size l bad v' (out++[c]) w2:=by
 subst h1;have eB:=(kg h.c).1;refine⟨?_,?_,?_⟩
 ·exact(hg.block _ (by simp;omega) λe=>by have:=(h.r.lt _ e.symm).1;omega).trans ((heap_alloc_old wr o eB).trans h.c)
 ·rw[aj];simpa[jM]using hr
 ·refine⟨?_,λb hb _=>?_,?_,?_⟩
  ·have h1:=hg.size;have h2:=h.b.size;simp at h1;omega
  ·exact(hg.block b (by have:=h.b.size;simp;omega) λe=>by have:=(h.r.lt b e.symm).1;omega).trans ((heap_alloc_old wr o (by have:=h.b.size;omega)).trans (h.b.keep b hb id))
  ·rw[hg.os];exact h.b.os
  ·rw[hg.output];exact h.b.output
theorem UnW.fin (h:UnW w w.heap.size l bad v out wr):wH w (if bad then none else whole out ([],l)) (.returned (.tuple #[v,.bool (!bad&&l.isEmpty&&decide (0<out.length))])) wr:=by
 unfold wH whole;refine⟨?_,h.b⟩;cases bad
 ·rw[if_neg (by decide)];cases hl:l.isEmpty
  ·simp only[hl];exact⟨v,rfl⟩
  ·cases ho:out with
   |nil=>exact⟨v,rfl⟩
   |cons c o=>
    simp only[hl,bi,List.isEmpty_cons,Bool.not_false,Bool.and_self,if_true];refine⟨v,by simp,?_,λb hb=>by have:=(h.r.lt b hb).1;omega⟩;rw[<-ho];exact⟨h.r.1,h.r.2.imp id λ⟨g,cap,cur,e,_,r⟩=>⟨g,cap,cur,e,xzl _,r⟩⟩
 ·exact⟨v,rfl⟩
theorem wH.no (hb:But (λ_=>False) w wr):wH w none (.returned (.tuple #[v,.bool false])) wr:=⟨⟨v,rfl⟩,hb⟩
theorem JL (w:aa) (a b c:ac) (ty:ay):∀(j:Nat) (u:ac),[a,b,c][j]?=some u->(w.alloc (.cells #[a,b,c] ty)).cell? ((⟨w.heap.size,0,none⟩:Addr).add j)=some u:=λj u hj=>by
 rw[aI,aN];match j,hj with
 |0,hj=>simp at hj;subst hj;go_simp
 |1,hj=>simp at hj;subst hj;go_simp
 |2,hj=>simp at hj;subst hj;go_simp
theorem QR (n:Nat) (l:Bs) (P:Nat->Bs->Option (List Chg×Bs)):((yh l).bind λc=>(P c.1 c.2).bind (whole []))=if(gV 4 true 0 1 l false).2.2 then none else(P (gV 4 true 0 1 l false).1 (gV 4 true 0 1 l false).2.1).bind (whole []):=by
 cases h1:yh l with
 |none=>rw[Qr h1];rfl
 |some p=>rw[GN h1];rfl
theorem q2w {b t:ByteArray} {l:Bs} {p:Nat} (ht:t.data.toList=l):(b.extract 0 p++t).data.toList=b.data.toList.take p++l:=by
 rw[aO,Array.toList_append,ext_list,ht];rfl
theorem WO (k l:ByteArray):(aH l.data.toList k.data.toList=true/\Op.bytesLess k.toList l.toList=false/\(k.toList==l.toList)=false)\/(aH l.data.toList k.data.toList=false/\Op.bytesLess k.toList l.toList=true)\/(aH l.data.toList k.data.toList=false/\Op.bytesLess k.toList l.toList=false/\(k.toList==l.toList)=true):=by
 rw[Ar,aA,aA];rcases Er k.data.toList l.data.toList with h|h|h
 ·exact .inr (.inl ⟨CU h,h⟩)
 ·rw[h];exact .inr (.inr ⟨AJ _,AJ _,beq_self_eq_true _⟩)
 ·exact .inl ⟨h,CU h,Ct h⟩
structure UnR (w:aa) (n:Nat) (s:ByteArray) (k:Nat) (last l:Bs) (bad:Bool) (v:ac) (out:List Chg) (wr:aa):Prop where
 u:UnW w w.heap.size l bad v out wr
 e:unblock n s.data.toList=xW n k last l bad out
 z:bad=false->out.length+l.length<=s.size
 z2:out.length<=s.size
 y:last.length<=8
theorem Yg (n:Nat) (s:ByteArray) (hs:s.size<=268435456):ax prog 65 #[.int .i64 n,.string s] w (wH w (unblock n s.data.toList)):=by
 have HU:Hid (UnW w w.heap.size s.data.toList false (.slice none 0 0) [] (w.alloc (.cells #[.string s,.bool false] 125))):=Hd ⟨by unfold jW;rw[aC,qI],aZ _ _ _ _,But.of_below ((j5 _ _).alloc (jd _) _)⟩;obtain⟨c0,e0⟩:∃c,gV 4 true 0 1 s.data.toList false=c:=⟨_,rfl⟩
 have E0:=Hd e0;have H0:Hid (unblock n s.data.toList=xW n c0.1 [] c0.2.1 c0.2.2 []):=Hd (by rw[<-e0];exact QR n _ (λk l=>wu n k [] l));have HZ:Hid (c0.2.1.length<=s.size):=Hd (by rw[<-e0];simpa using CO 4 true 0 1 s.data.toList false);have NH:c0.1<=268435456:=by have:=Kr 4 true 0 1 s.data.toList false;rw[e0]at this;omega
 have HS:=Hd hs;obtain⟨ci,l1,l2,l3,l4⟩:=Kj;have HI:=Hd (ah l1 (ah l2 (ah l3 l4)));clear e0 l1 l2 l3 l4 hs;go_enter func65,ntmps65;go_wp2_with (go_at_call 63;refine(Ao HU.c).mono ?_;rw[E0.o];rintro e w2 ⟨rfl,h1,h2⟩;have K0:=Hd (HU.cur h1 h2);clear h1 h2)
 go_loopw [7,8,9] (λo la k wr=>∃(out:List Chg) (sa:Option Addr) (cp:Nat) (lb:ByteArray) (j:Nat) (l:Bs) (bad:Bool),o=.slice sa out.length cp/\la=.string lb/\k=.int .i64 j/\j<=268435456/\Hid (UnR w n s j lb.data.toList l bad (.slice sa out.length cp) out wr)) (λ_ _ k _=>(intOf k).toNat);case atStart=>exact⟨[],none,0,⟨#[]⟩,c0.1,c0.2.1,c0.2.2,rfl,rfl,rfl,NH,Hd ⟨K0.o,H0.o,λ_=>by have:=HZ.o;simpa using this,xzl _,xzl _⟩⟩
 case round=>
  obtain⟨out,sa,cp,lb,j,l,bad,rfl,rfl,rfl,U6,HR⟩:=hrel;obtain⟨sr,sQ⟩:=qh l;obtain⟨NC,eU,_⟩:=HR.u.c.cells sQ;have gM:=congrArg List.isEmpty sQ;rw[<-aA]at gM;by_cases hx:j=0\/bad=true
  ·have HF:Hid (wH w (unblock n s.data.toList) (.returned (.tuple #[.slice sa out.length cp,.bool (!bad&&l.isEmpty&&decide (0<out.length))])) wr):=Hd (by
    have:=HR.u.fin;rw[HR.e];unfold xW;cases bad
    ·rcases hx with rfl|h
     ·exact this
     ·cases h
    ·exact this)
   clear sQ;cases bad
   ·obtain rfl:j=0:=hx.elim id λh=>by cases h
    cases hl:l.isEmpty;all_goals
     rw[hl]at gM HF;go_wp2;go_ret2;simpa using HF.o
   ·by_cases hj:j=0
    ·subst hj;go_wp2;go_ret2;simpa using HF.o
    ·have M0:((0:Int)<j):=by omega
     go_wp2;go_ret2;simpa using HF.o
  ·obtain⟨j,rfl⟩:∃q,j=q+1:=⟨j-1,by omega⟩
   obtain rfl:bad=false:=by cases bad;rfl;exact absurd (.inr rfl) hx
   have HB:=Zk n j lb.data.toList l out;obtain⟨c1,e1⟩:∃c,gV 4 true 0 1 l false=c:=⟨_,rfl⟩
   rw[e1]at HB;obtain⟨c2,e2⟩:∃c,jV c1.2.1 c1.2.2=c:=⟨_,rfl⟩
   simp only[e2]at HB;obtain⟨c3,e3⟩:∃c,jV c2.2.1 c2.2.2=c:=⟨_,rfl⟩
   simp only[e3]at HB;have EX:=CO 4 true 0 1 l false;have nS:=AA c1.2.1 c1.2.2;rw[e1]at EX;rw[e2]at nS;obtain⟨tb,ht⟩:=qh c2.1;obtain⟨vb,hv⟩:=qh c3.1;have uE:lb.data.toList.length=lb.size:=by simp
   have iY:=q2w (b:=lb) (p:=c1.1) ht;rw[<-iY,<-hv]at HB;have iD:(lb.extract 0 c1.1++tb).size<=az:=by
    rw[uh iY,aj,bd];have:=HR.y;have:=HR.z rfl;have:=HS.o;have:=nS.1;unfold az;omega
   have E1:=Hd e1;have E2:=Hd e2;have E3:=Hd e3;have HT:=Hd (ah ht hv);have qZ:=Hd HB;have HK:=Hd iD;have htz:tb.size<=268435456:=by
    rw[uh ht];have:=HR.z rfl;have:=HS.o;have:=nS.1;omega
   have hlb2:lb.size<=8:=by have:=HR.y;omega
   clear e1 e2 e3 EX nS ht hv iY iD HB sQ gM uE;by_cases hp:lb.size<c1.1
   ·have hp2:decide ((lb.size:Int)<c1.1)=true:=xdt (by omega);go_wp2_with (go_at_call 63;refine(Ao HR.u.c).mono ?_;rw[E1.o];rintro e w3 ⟨rfl,h1,h2⟩;have K1:=Hd (HR.u.cur h1 h2);clear h1 h2)
    go_ret2;rw[HR.e,qZ.1 (by simpa using hp)];exact .no K1.b
   ·have hp2:decide ((lb.size:Int)<c1.1)=false:=xdf (by omega);have hp3:((c1.1:Int)<=lb.size):=by omega
    have hp4:c1.1<=lb.size:=by omega
    have hxz:(lb.extract 0 c1.1).size=c1.1:=by simp;omega
    go_wp2_with (go_at_call 63;refine(Ao HR.u.c).mono ?_;rw[E1.o];rintro e w3 ⟨rfl,h1,h2⟩;have K1:=Hd (HR.u.cur h1 h2);clear h1 h2)
    go_region_with (go_at_call 64;refine(wJ (K1.below (w2:=_) (by first|exact j5 _ _|exact(j5 _ _).drew)).c).mono ?_;rw[E2.o,jb HT.1];rintro e w4 ⟨rfl,h1,h2⟩;have K2:=Hd ((K1.below (by first|exact j5 _ _|exact(j5 _ _).drew)).cur h1 h2);clear h1 h2)
    obtain⟨kb,iY⟩:∃kb,lb.extract 0 c1.1++tb=kb:=⟨_,rfl⟩
    rw[iY]at qZ HK⊢;obtain⟨fb,Bn⟩:∃b,iM n kb.data.toList vb.data.toList=b:=⟨_,rfl⟩
    have hle:=WO kb lb;rw[Bn]at qZ;have BG:=Hd Bn;have FQ:¬lb.data.toList.length<c1.1:=by simpa using hp
    have hoz:out.length<=268435456:=by have:=HR.z2;have:=HS.o;omega
    have HNL:=Hd FQ;clear iY Bn FQ;cases fb
    ·have BF:Hid (unblock n s.data.toList=none):=Hd (by rw[HR.e];exact qZ.2.1 rfl);clear hle;go_wp2_with (first
      |(go_at_call 64;refine(wJ K2.c).mono ?_;rw[E3.o,jb HT.2];rintro e w5 ⟨rfl,h1,h2⟩;have K3:=Hd (K2.cur h1 h2);clear h1 h2)
      |(go_at_call 93;refine(Cs n kb vb HK.o).mono ?_;rw[BG.o];rintro e w6 ⟨rfl,h1⟩;have K4:=Hd (K3.below h1);clear h1))
     go_ret2;rw[BF.o];exact .no K4.b
    ·rcases hle with⟨g0,g1,g2⟩|⟨g0,g1⟩|⟨g0,g1,g2⟩
     ·have xO:=Hd (qZ.2.2 HNL.o (by rw[g0];rfl));clear g0;go_wp2_with (first
       |(go_at_call 64;refine(wJ K2.c).mono ?_;rw[E3.o,jb HT.2];rintro e w5 ⟨rfl,h1,h2⟩;have K3:=Hd (K2.cur h1 h2);clear h1 h2)
       |(go_at_call 93;refine(Cs n kb vb HK.o).mono ?_;rw[BG.o];rintro e w6 ⟨rfl,h1⟩;have K4:=Hd (K3.below h1);clear h1)
       |(at_builtin;(refine aF _ rfl (.tmp 53) (.tmp 58) 75 rfl (w.heap.size+1) 109 ci _ 3 40 underlying75 HI.1 HI.2.1 HI.2.2.1 HI.2.2.2 rfl (by decide) (.slice sa out.length cp) out.length (jM out) rfl (K4.r.alloc _) ⟨w6.heap.size,0,none⟩ 1 1 [.string kb,.string vb,.bool false] rfl rfl (JL w6 _ _ _ _) (by intro u hu;simp at hu;rcases hu with rfl|rfl|rfl<;>rfl) (by unfold az;omega) (by omega) (by have:=(kg K4.c).1;simp;omega) ?_;intro v2 w7 fB iq _;obtain⟨zV,BA,mh⟩:=AB fB;rw[mh]at fB;have K5:=Hd (K4.app ⟨kb.data.toList,vb.data.toList,false⟩ rfl iq (by rw[qI,qI];exact fB));rw[mh];clear fB iq mh)))
      go_roundw;case rel=>exact⟨out++[⟨kb.data.toList,vb.data.toList,false⟩],zV,BA,kb,j,c3.2.1,c3.2.2,by simp,rfl,by go_num,by omega,Hd ⟨by simpa using K5.o,by rw[HR.e];exact xO.1,λ_=>by have:=xO.2.1;have:=HR.z rfl;simp;omega,by have:=xO.2.1;have:=HR.z rfl;simp;omega,xO.2.2⟩⟩
      case measure=>simp[intOf]<;>omega
     ·have BF:Hid (unblock n s.data.toList=none):=Hd (by rw[HR.e];exact qZ.2.1 (by rw[g0];rfl));clear g0;go_wp2_with (first
       |(go_at_call 64;refine(wJ K2.c).mono ?_;rw[E3.o,jb HT.2];rintro e w5 ⟨rfl,h1,h2⟩;have K3:=Hd (K2.cur h1 h2);clear h1 h2)
       |(go_at_call 93;refine(Cs n kb vb HK.o).mono ?_;rw[BG.o];rintro e w6 ⟨rfl,h1⟩;have K4:=Hd (K3.below h1);clear h1))
      go_ret2;rw[BF.o];exact .no K4.b
     ·have BF:Hid (unblock n s.data.toList=none):=Hd (by rw[HR.e];exact qZ.2.1 (by rw[g0];rfl));clear g0;go_wp2_with (first
       |(go_at_call 64;refine(wJ K2.c).mono ?_;rw[E3.o,jb HT.2];rintro e w5 ⟨rfl,h1,h2⟩;have K3:=Hd (K2.cur h1 h2);clear h1 h2)
       |(go_at_call 93;refine(Cs n kb vb HK.o).mono ?_;rw[BG.o];rintro e w6 ⟨rfl,h1⟩;have K4:=Hd (K3.below h1);clear h1))
      go_ret2;rw[BF.o];exact .no K4.b
end
def wo (n k:Nat) (l:Bs) (bad:Bool) (out:List Chg):Option (List Chg):=if bad then none else(qG n k l).bind (whole out)
def Ik (b:UInt8) (c:Bs×Bool):Bs×Bs×Bool:=if b.toNat=1 then jV c.1 c.2 else([],c)
theorem Ze (n k:Nat) (l:Bs) (out:List Chg):
  let c1:=iy l false
  let c2:=jV c1.2.1 c1.2.2
  let c3:=Ik c1.1 c2.2
  (c1.1.toNat<1\/2<c1.1.toNat->wo n (k+1) l false out=none)/\(iM n c2.1 c3.1=false->wo n (k+1) l false out=none)/\
   (¬(c1.1.toNat<1\/2<c1.1.toNat)->iM n c2.1 c3.1=true->wo n (k+1) l false out=wo n k c3.2.1 c3.2.2 (out++[⟨c2.1,c3.1,c1.1.toNat==2⟩])/\c3.2.1.length<l.length):=by
 simp only[show wo n (k+1) l false out=(qG n (k+1) l).bind (whole out)from rfl];cases l with
 |nil=>exact⟨λ_=>rfl,λ_=>rfl,λh=>(h (.inl (by decide))).elim⟩
 |cons b l=>
  simp only[iy,qG];by_cases hb:b.toNat<1\/2<b.toNat
  ·rw[if_pos (by simpa using hb)];exact⟨λ_=>rfl,λ_=>rfl,λh=>(h hb).elim⟩
  ·rw[if_neg (by simpa using hb)];refine⟨λh=>(hb h).elim,?_⟩;cases h2:vo l with
   |none=>
    rw[G7 h2];refine⟨λ_=>rfl,λ_ h=>?_⟩;rw[show iM n ([],[],true).1 _=false from WY n _]at h;cases h
   |some t=>
    rw[yR h2];have a1:=(AA l false).2;rw[yR h2]at a1;simp only[ae,Ik]at a1⊢;by_cases h1:b.toNat=1
    ·rw[if_pos h1,if_pos (by simpa using h1)];cases h3:vo t.2 with
     |none=>
      rw[G7 h3];exact⟨λ_=>rfl,λ_ h=>⟨rfl,by simp⟩⟩
     |some v=>
      have a2:=(AA t.2 false).2;rw[yR h3]at a2⊢;simp only[ae]at a2⊢;refine⟨λh=>by rw[if_neg (by rw[h];decide)];rfl,λ_ h=>?_⟩;rw[if_pos h,K8];exact⟨rfl,by simp;omega⟩
    ·rw[if_neg h1,if_neg (by simpa using h1)];simp only[ae];refine⟨λh=>by rw[if_neg (by rw[h];decide)];rfl,λ_ h=>?_⟩;rw[if_pos h,K8];exact⟨rfl,by simp;omega⟩
structure UdR (w:aa) (n:Nat) (s:ByteArray) (k:Nat) (l:Bs) (bad:Bool) (v:ac) (out:List Chg) (wr:aa):Prop where
 u:UnW w w.heap.size l bad v out wr
 e:uf n s.data.toList=wo n k l bad out
 z:bad=false->out.length+l.length<=s.size
 z2:out.length<=s.size
section
variable {w wr w2:aa} {cb x:Nat} {l l2:Bs} {bad D5:Bool} {v:ac} {out:List Chg}
theorem UnW.but (h:UnW w w.heap.size l bad v out wr) (hb:But (· =x) wr w2) (hx:w.heap.size<x) (hv:v.ownBlock≠some x):UnW w w.heap.size l bad v out w2:=⟨(hb.keep _ (kg h.c).1 (by omega)).trans h.c,je h.r λg hg=>hb.keep g (h.r.lt g hg).2 (λe=>hv (e▸hg)),h.b.top hb λb e=>.inr (by omega)⟩
def XB (x:Nat) (k v:ByteArray) (g:Bool) (w:aa):Prop:=w.heap[x]?=some (.cells #[.string k,.string v,.bool g] 109 (0,0))
theorem XB.cells {k v:ByteArray} {g:Bool} (h:XB x k v g w):w.cell? ⟨x,0,none⟩=some (.string k)/\w.cell? ⟨x,1,none⟩=some (.string v)/\w.cell? ⟨x,2,none⟩=some (.bool g)/\w.frozen? ⟨x,1,none⟩=false:=by
 unfold XB at h;exact⟨by simp[ag,h],by simp[ag,h],by simp[ag,h],by simp[aw,h]⟩
theorem XB.below {v:ByteArray} (h:XB x k v g w) (hb:aq w.heap.size w w2):XB x k v g w2:=(hb.block _ (kg h).1).trans h
theorem XB.set {v v2:ByteArray} (h:XB x k v g w):XB x k v2 g (w.setCell ⟨x,1,none⟩ (.string v2)):=(xhs w x 1 _ _ (.string v2) h).trans rfl
theorem UnW.xb (h:UnW w w.heap.size l bad v out wr) (hn:∀g,v.ownBlock=some g->g<wr.heap.size):UnW w w.heap.size l bad v out (wr.alloc (.cells #[.string k,.string ⟨#[]⟩,.bool g] 109))/\XB wr.heap.size k ⟨#[]⟩ g (wr.alloc (.cells #[.string k,.string ⟨#[]⟩,.bool g] 109))/\w.heap.size<wr.heap.size/\v.ownBlock≠some wr.heap.size:=
 ⟨h.below ((j5 _ _).alloc (jd _) _),aC _ _,(kg h.c).1,λe=>Nat.lt_irrefl _ (hn _ e)⟩
theorem UnW.fill (h:UnW w w.heap.size l bad v out wr/\XB x k ⟨#[]⟩ g wr) (hx:w.heap.size<x/\v.ownBlock≠some x) (h1:jW w2 w.heap.size l2 D5) (hb:But (· =w.heap.size) wr w2):(UnW w w.heap.size l2 D5 v out (w2.setCell ⟨x,1,none⟩ (.string vb))/\XB x k vb g (w2.setCell ⟨x,1,none⟩ (.string vb)))/\XB x k ⟨#[]⟩ g w2:=by
 have hq:XB x k ⟨#[]⟩ g w2:=(hb.keep _ (kg h.2).1 (by omega)).trans h.2;exact⟨⟨(h.1.cur h1 hb).but (But.setCell (B:=(· =x)) (But.refl _ _) rfl _ _) hx.1 hx.2,hq.set⟩,hq⟩
theorem Yf (n:Nat) (s:ByteArray) (hs:s.size<=268435456):ax prog 66 #[.int .i64 n,.string s] w (wH w (uf n s.data.toList)):=by
 have HU:Hid (UnW w w.heap.size s.data.toList false (.slice none 0 0) [] (w.alloc (.cells #[.string s,.bool false] 125))):=Hd ⟨by unfold jW;rw[aC,qI],aZ _ _ _ _,But.of_below ((j5 _ _).alloc (jd _) _)⟩;obtain⟨c0,e0⟩:∃c,gV 4 true 0 1 s.data.toList false=c:=⟨_,rfl⟩
 have E0:=Hd e0;have H0:Hid (uf n s.data.toList=wo n c0.1 c0.2.1 c0.2.2 []):=Hd (by rw[<-e0];exact QR n _ (λk l=>qG n k l));have HZ:Hid (c0.2.1.length<=s.size):=Hd (by rw[<-e0];simpa using CO 4 true 0 1 s.data.toList false);have NH:c0.1<=268435456:=by have:=Kr 4 true 0 1 s.data.toList false;rw[e0]at this;omega
 have HS:=Hd hs;obtain⟨ci,l1,l2,l3,l4⟩:=Kj;have HI:=Hd (ah l1 (ah l2 (ah l3 l4)));clear e0 l1 l2 l3 l4 hs;go_enter func66,ntmps66;go_wp2_with (go_at_call 63;refine(Ao HU.c).mono ?_;rw[E0.o];rintro e w2 ⟨rfl,h1,h2⟩;have K0:=Hd (HU.cur h1 h2);clear h1 h2)
 go_loopw [7,8] (λo k wr=>∃(out:List Chg) (sa:Option Addr) (cp:Nat) (j:Nat) (l:Bs) (bad:Bool),o=.slice sa out.length cp/\k=.int .i64 j/\j<=268435456/\Hid (UdR w n s j l bad (.slice sa out.length cp) out wr)) (λ_ k _=>(intOf k).toNat);case atStart=>exact⟨[],none,0,c0.1,c0.2.1,c0.2.2,rfl,rfl,NH,Hd ⟨K0.o,H0.o,λ_=>by have:=HZ.o;simpa using this,xzl _⟩⟩
 case round=>
  obtain⟨out,sa,cp,j,l,bad,rfl,rfl,U6,HR⟩:=hrel;obtain⟨sr,sQ⟩:=qh l;obtain⟨NC,eU,_⟩:=HR.u.c.cells sQ;have gM:=congrArg List.isEmpty sQ;rw[<-aA]at gM;by_cases hx:j=0\/bad=true
  ·have HF:Hid (wH w (uf n s.data.toList) (.returned (.tuple #[.slice sa out.length cp,.bool (!bad&&l.isEmpty&&decide (0<out.length))])) wr):=Hd (by
    have:=HR.u.fin;rw[HR.e];unfold wo;cases bad
    ·rcases hx with rfl|h
     ·exact this
     ·cases h
    ·exact this)
   clear sQ;cases bad
   ·obtain rfl:j=0:=hx.elim id λh=>by cases h
    cases hl:l.isEmpty;all_goals
     rw[hl]at gM HF;go_wp2;go_ret2;simpa using HF.o
   ·by_cases hj:j=0
    ·subst hj;go_wp2;go_ret2;simpa using HF.o
    ·have M0:((0:Int)<j):=by omega
     go_wp2;go_ret2;simpa using HF.o
  ·obtain⟨j,rfl⟩:∃q,j=q+1:=⟨j-1,by omega⟩
   obtain rfl:bad=false:=by cases bad;rfl;exact absurd (.inr rfl) hx
   have HB:=Ze n j l out;obtain⟨c1,e1⟩:∃c,iy l false=c:=⟨_,rfl⟩
   rw[e1]at HB;obtain⟨c2,e2⟩:∃c,jV c1.2.1 c1.2.2=c:=⟨_,rfl⟩
   simp only[e2]at HB;obtain⟨c3,e3⟩:∃c,Ik c1.1 c2.2=c:=⟨_,rfl⟩
   simp only[e3]at HB;have EX:=Rj l false;have nS:=AA c1.2.1 c1.2.2;rw[e1]at EX;rw[e2]at nS;obtain⟨kb,hk⟩:=qh c2.1;obtain⟨vb,hv⟩:=qh c3.1;rw[<-hk,<-hv]at HB;have iD:kb.size<=az:=by
    rw[uh hk];have:=HR.z rfl;have:=HS.o;have:=nS.1;unfold az;omega
   obtain⟨b,eX⟩:∃b,c1.1=b:=⟨_,rfl⟩
   rw[eX]at HB e3;obtain⟨bn,Fu⟩:∃n,b.toNat=n:=⟨_,rfl⟩
   rw[Fu]at HB;unfold Ik at e3;rw[Fu]at e3;have Wj:bn<256:=Fu▸yK b;have E1:=Hd e1;have EB:=Hd (ah eX Fu);have E2:=Hd e2;have E3:=Hd e3;have HT:=Hd (ah hk hv);have qZ:=Hd HB;have HK:=Hd iD;have hoz:out.length<=268435456:=by have:=HR.z2;have:=HS.o;omega
   have VW:=Hd (λg (hg:(Value.slice sa out.length cp).ownBlock=some g)=>(HR.u.r.lt g hg).2);clear e1 e2 e3 EX nS hk hv iD HB sQ gM NC eX Fu;have VT:=HR.z;by_cases hr:bn=1\/bn=2
   ·obtain⟨fb,Bn⟩:∃b,iM n kb.data.toList vb.data.toList=b:=⟨_,rfl⟩
    rw[Bn]at qZ;have BG:=Hd Bn;have xO:Hid (if fb then uf n s.data.toList=wo n j c3.2.1 c3.2.2 (out++[⟨kb.data.toList,vb.data.toList,bn==2⟩])/\c3.2.1.length<l.length else uf n s.data.toList=none):=Hd (by
     rw[HR.e];cases fb
     ·exact qZ.2.1 rfl
     ·exact qZ.2.2 (by omega) rfl)
    clear Bn VT qZ;rcases hr with rfl|rfl;all_goals cases fb
    all_goals
     first
     |(have nk:vb=⟨#[]⟩:=by
        have h1:=HT.2;have h2:=E3.o;rw[if_neg (by decide)]at h2;rw[<-h2]at h1;cases vb;simp only[ByteArray.mk.injEq];exact Array.toList_inj.1 h1
       subst nk
       have E4:Hid (c2.2=c3.2):=Hd (by have h2:=E3.o;rw[if_neg (by decide)]at h2;rw[<-h2]))
     |have E4:Hid (jV c2.2.1 c2.2.2=c3):=Hd (by have h2:=E3.o;rwa [if_pos rfl]at h2)
     go_wp2_with (first
      |(go_at_call 62;refine(Eg HR.u.c).mono ?_;rw[E1.o,EB.out.1,EB.out.2];rintro e w3 ⟨rfl,h1,h2⟩;have K1:=Hd (HR.u.cur h1 h2);have Z1:=h2.size;clear h1 h2)
      |(go_at_call 64;refine(wJ K1.c).mono ?_;rw[E2.o,jb HT.1];rintro e w4 ⟨rfl,h1,h2⟩;have K2:=Hd (λgg=>(K1.cur h1 h2).xb (k:=kb) (g:=gg) λg hg=>xll (VW.o g hg) (xlt Z1 h2.size));clear h1 h2)
      |(go_at_call 64;refine(wJ (K2.o _).1.c).mono ?_;rw[E4.o,jb HT.2];rintro e w5 ⟨rfl,h1,h2⟩;have K3:=Hd (UnW.fill (vb:=vb) ⟨(K2.o _).1,(K2.o _).2.1⟩ (K2.o false).2.2 h1 h2);obtain⟨x0,x1,x2,x3⟩:=K3.2.cells;clear h1 h2)
      |(go_at_call 93;refine(Cs n kb vb HK.o).mono ?_;rw[BG.o];rintro e w6 ⟨rfl,h1⟩;have K4:=Hd (ah (K3.1.1.below h1) (K3.1.2.below h1));obtain⟨x0,x1,x2,x3⟩:=K4.2.cells;clear h1)
      |(go_at_call 93;refine(Cs n kb ⟨#[]⟩ HK.o).mono ?_;rw[BG.o];rintro e w6 ⟨rfl,h1⟩;have K4:=Hd (ah ((K2.o true).1.below h1) ((K2.o true).2.1.below h1));obtain⟨x0,x1,x2,x3⟩:=K4.2.cells;clear h1)
      |(at_builtin;(refine aF _ rfl (.tmp 58) (.tmp 60) 75 rfl (w.heap.size+1) 109 ci _ 3 40 underlying75 HI.1 HI.2.1 HI.2.2.1 HI.2.2.2 rfl (by decide) (.slice sa out.length cp) out.length (jM out) rfl (K4.1.r.alloc _) ⟨w6.heap.size,0,none⟩ 1 1 [.string kb,.string vb,.bool false] rfl rfl (JL w6 _ _ _ _) (by intro u hu;simp at hu;rcases hu with rfl|rfl|rfl<;>rfl) (by unfold az;omega) (by omega) (by have:=(kg K4.1.c).1;simp;omega) ?_;intro v2 w7 fB iq _;obtain⟨zV,BA,mh⟩:=AB fB;rw[mh]at fB;have K5:=Hd (K4.1.app ⟨kb.data.toList,(vb:ByteArray).data.toList,false⟩ rfl iq (by rw[qI,qI];exact fB));rw[mh];clear fB iq mh))
      |(at_builtin;(refine aF _ rfl (.tmp 58) (.tmp 60) 75 rfl (w.heap.size+1) 109 ci _ 3 40 underlying75 HI.1 HI.2.1 HI.2.2.1 HI.2.2.2 rfl (by decide) (.slice sa out.length cp) out.length (jM out) rfl (K4.1.r.alloc _) ⟨w6.heap.size,0,none⟩ 1 1 [.string kb,.string ⟨#[]⟩,.bool true] rfl rfl (JL w6 _ _ _ _) (by intro u hu;simp at hu;rcases hu with rfl|rfl|rfl<;>rfl) (by unfold az;omega) (by omega) (by have:=(kg K4.1.c).1;simp;omega) ?_;intro v2 w7 fB iq _;obtain⟨zV,BA,mh⟩:=AB fB;rw[mh]at fB;have K5:=Hd (K4.1.app ⟨kb.data.toList,[],true⟩ rfl iq (by rw[qI];exact fB));rw[mh];clear fB iq mh)))
     first
     |(go_ret2
       rw[show uf n s.data.toList=none from xO.o]
       exact .no K4.1.b)
     |(go_roundw
       case rel=>exact⟨out++[_],zV,BA,j,c3.2.1,c3.2.2,by simp,by go_num,by omega,Hd ⟨by first|simpa using K5.o|(rw[<-E4.o];simpa using K5.o),xO.1,λ_=>by have:=xO.2;have:=HR.z rfl;simp;omega,by have:=xO.2;have:=HR.z rfl;simp;omega⟩⟩
       case measure=>simp[intOf]<;>omega)
   ·have BF:Hid (uf n s.data.toList=none):=Hd (by rw[HR.e];exact qZ.1 (by omega));have uN:((bn:Int)==1)=false:=by simp;omega
    clear VT qZ;go_wp2_with (first
     |(go_at_call 62;refine(Eg HR.u.c).mono ?_;rw[E1.o,EB.out.1,EB.out.2];rintro e w3 ⟨rfl,h1,h2⟩;have K1:=Hd (HR.u.cur h1 h2);have Z1:=h2.size;clear h1 h2)
     |(go_at_call 64;refine(wJ K1.c).mono ?_;rw[E2.o,jb HT.1];rintro e w4 ⟨rfl,h1,h2⟩;have K2:=Hd (λgg=>(K1.cur h1 h2).xb (k:=kb) (g:=gg) λg hg=>xll (VW.o g hg) (xlt Z1 h2.size));clear h1 h2))
    all_goals first
     |(exfalso;omega)
     |(go_ret2
       rw[BF.o]
       exact .no (K2.o _).1.b)
end
end
end Go.Proofs.YtkpekiajdlolnaaGreat
