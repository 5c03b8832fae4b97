/- PROVED: part 4 of the claim's ground. Conditions: those that each theorem names. -/
import Derived.Test.YtkpekiajdlolnabGreatM03
import Derived.Deep.RegionHeld3
import Derived.Deep.RegionWith
import Derived.Test.YtkpekiajdlolnabGreatRows
import Derived.ProofKit
import Derived.OpenShut
import Derived.Carry
import Derived.Conc.Holds
import Derived.ChangeArms
import Derived.Deep.WholeRow
import Derived.Laws.BitsAllLaws
import Derived.Lib.Hide
import Derived.Laws.IdiomStrings
import Derived.Maps.AppendAt
import Derived.Maps.Views
import Derived.Maps.RangeWalk
import Derived.DeepKeys5
import Derived.Deep.AppendSrc
import Derived.Deep.Upon
set_option linter.unusedVariables false
set_option linter.unusedSimpArgs false
set_option maxRecDepth 100000
set_option maxHeartbeats 16000000
variable{A B:Prop} {N b cb cl d db h i j m mb n xb:Nat} {Q:Go.Exit->Go.Act->Go.World->Prop} {a:Go.Act} {as':Array Go.Operand} {e:Go.Operand->Go.Value} {f:Go.FuncId} {g:Bool} {k:ByteArray} {l s:List UInt8} {o:Go.Oper} {ops:Array Go.Oper} {p:Go.Operand} {vs:Array Go.Value} {w w' w1 w2:Go.World} {x:Nat->Go.Value} {xs:List Go.Value}
open Go.Proofs.Tryz
open Go renaming Value→aa,World→ac,getD_set_ne→au,TypeId→aw,execOp→ax,Calls→aK,mem_ready→aP,run_convert_bytes_back→aQ,Operand→aX,yielded→aY,wp_region_still_tail→aZ,maxLen→bi,undef→bD,wpList_append_own→bY,ofInt_u64→cf,wpStill_nil→co,Frame→cq,Program→cA,MemPlace→cB,Ending→cP
open Bool renaming and_eq_true→ae,or_eq_true→bE,not_eq_true'→ce
open List renaming range→ag,all_eq_true→aj,getD_eq_getElem?_getD→am,mem_range→aq,length_append→aA,take_of_length_le→aI,getElem?_eq_some_iff→aN,getElem?_eq_none→aU,length_cons→aV,take_succ_cons→bg,drop_succ_cons→bh,drop_eq_getElem_cons→bk,getElem?_map→bp,getElem?_eq_getElem→bq,any_eq_true→bw,length_drop→bz,take_append_drop→bG,take_zero→bJ,drop_zero→bK,getElem?_drop→bR,size_toArray→bU,append_assoc→bV,getElem_mem→cg,length_map→cu,foldl_cons→cw,length_nil→cx,map_cons→cL,map_nil→cU
open Go.Region renaming ready→ah,wanted→ao,binds→ay
open Nat renaming mod_two_eq_zero_or_one→ai,xor_lt_two_pow→av,pow_succ→aH,mul_le_mul_right→aL,zero_add→aR,pow_le_pow_right→bd,not_le→cC
open Array renaming getElem?_eq_getElem→az,getD_eq_getD_getElem?→aC,all_eq_true_iff_forall_mem→aG,getElem?_eq_none→aS,replicate→bF,getElem?_map→bQ,ext'→di,ext→dq
open Option renaming bind_some→aD,map_some→aJ,getD_some→aW,isNone_iff_eq_none→bj
open Go.RowKit renaming Below→aE
open ByteArray renaming getElem_eq_getElem_data→aF,data_append→bH,size_append→bI
open Go.Addr renaming add_lit→aM
open Go.World renaming cell?→aO,frozen?→bu
open Option.some renaming injEq→bm
open Ne renaming symm→bo
open Go.Act renaming mk→bB
open BitVec renaming ofInt→bC
open And renaming intro→bO
namespace Go.Proofs.YtkpekiajdlolnabGreat
open Go.RowKit Go.Maps
theorem Uy (c:Nat):shd c=if c<104 then 0 else if c<110 then 1 else if c<117 then 2 else 3:=by
 unfold shd;by_cases h1:c<=103
 ·rw[if_pos h1,if_pos (show c<104 by omega)]
 ·rw[if_neg h1,if_neg (show¬c<104 by omega)];by_cases h2:c<=109
  ·rw[if_pos h2,if_pos (show c<110 by omega)]
  ·rw[if_neg h2,if_neg (show¬c<110 by omega)];by_cases h3:c<=116
   ·rw[if_pos h3,if_pos (show c<117 by omega)]
   ·rw[if_neg h3,if_neg (show¬c<117 by omega)]
section
variable {w:ac}
end
structure rZ (w:ac) (cl n:Nat) (db mb:Nat) (mv:Option Addr) (L:KV):Prop where
 d:w.cell? ⟨cl,1+n*3+1,none⟩=some (.pointer (some ⟨db,0,none⟩))
 v:w.cell? ⟨cl,1+n*3+2,none⟩=some (.pointer mv)
 m:w.cell? ⟨db,0,none⟩=some (.map (some mb))
 l:jv w mb L
theorem rZ.block {mv:Option Addr} {L:KV} (h:rZ w cl n db mb mv L) (k:∀b,b=cl\/b=db\/b=mb->w'.heap[b]?=w.heap[b]?):rZ w' cl n db mb mv L:=
 ⟨(xcb (k _ (.inl rfl))).trans h.d,(xcb (k _ (.inl rfl))).trans h.v,(xcb (k _ (.inr (.inl rfl)))).trans h.m,h.l.block (k _ (.inr (.inr rfl)))⟩
theorem rZ.lt {mv:Option Addr} {L:KV} (h:rZ w cl n db mb mv L):cl<w.heap.size/\db<w.heap.size/\mb<w.heap.size:=
 ⟨xbl w _ h.d,xbl w _ h.m,h.l.lt⟩
theorem rZ.below {mv:Option Addr} {L:KV} (h:rZ w cl n db mb mv L) (k:aE w.heap.size w w'):rZ w' cl n db mb mv L:=
 h.block λb hb=>k.block b (by have:=h.lt;rcases hb with rfl|rfl|rfl<;>omega)
def VD (x:Int) (w:ac) (e:cP) (w':ac):Prop:=e=.returned (.int .i64 x)/\aE w.heap.size w w'
section
variable {w:ac} {cl db mb:Nat} {L:KV}
theorem qtj (k v:ByteArray) (g:Bool) (h:iT k.data.toList=false) (hs:k.size<=bi):aK prog 40 #[.pointer (some ⟨cl,0,none⟩),.agg #[.string k,.string v,.bool g]] w (VD 2 w):=by
 go_enter func40,ntmps40;go_wp2_with (go_at_call 41;refine(Nl _ _ h hs).mono ?_;rintro e w1 ⟨rfl,hb⟩)
 go_ret;exact⟨rfl,((zk _ _).alloc (ji _) _).trans (hb.mono (by simp))⟩
structure ChW (cb cl n db mb:Nat) (mv:Option Addr) (L:KV) (k v:ByteArray) (g:Bool) (w:ac):Prop where
 c0:w.cell? ⟨cb,0,none⟩=some (.string k)
 c1:w.cell? ⟨cb,1,none⟩=some (.string v)
 c2:w.cell? ⟨cb,2,none⟩=some (.bool g)
 d:w.cell? ⟨cl,1+n*3+1,none⟩=some (.pointer (some ⟨db,0,none⟩))
 v:w.cell? ⟨cl,1+n*3+2,none⟩=some (.pointer mv)
 m:w.cell? ⟨db,0,none⟩=some (.map (some mb))
 l:jv w mb L
theorem ChW.of {mv:Option Addr} {v:ByteArray} (hp:rZ w cl n db mb mv L) (hb:aE (w.alloc (.cells #[.string k,.string v,.bool g] 87)).heap.size (w.alloc (.cells #[.string k,.string v,.bool g] 87)) w1):
  ChW w.heap.size cl n db mb mv L k v g w1/\aE w.heap.size w w1:=by
 have nE:aE w.heap.size w w1:=((zk _ _).alloc (ji _) _).trans (hb.mono (by simp));obtain⟨pd,pv,pm,pl⟩:=hp.below nE;exact⟨⟨(hb.cell (p:=⟨w.heap.size,0,none⟩) (by simp)).trans (by go_simp),(hb.cell (p:=⟨w.heap.size,1,none⟩) (by simp)).trans (by go_simp),(hb.cell (p:=⟨w.heap.size,2,none⟩) (by simp)).trans (by go_simp),pd,pv,pm,pl⟩,nE⟩
theorem ChW.below {mv:Option Addr} {v:ByteArray} (h:ChW cb cl n db mb mv L k v g w) (hb:aE w.heap.size w w1):ChW cb cl n db mb mv L k v g w1:=
 ⟨(hb.cell (xbl w _ h.c0)).trans h.c0,(hb.cell (xbl w _ h.c1)).trans h.c1,(hb.cell (xbl w _ h.c2)).trans h.c2,(hb.cell (xbl w _ h.d)).trans h.d,(hb.cell (xbl w _ h.v)).trans h.v,(hb.cell (xbl w _ h.m)).trans h.m,h.l.block (hb.block _ h.l.lt)⟩
theorem ChW.but {mv:Option Addr} {v:ByteArray} {L':KV} (h:ChW cb cl n db mb mv L k v g w) (hb:But (· =mb) w w1) (hm:jv w1 mb L'):ChW cb cl n db mb mv L' k v g w1:=by
 have ne:∀{b o:Nat} {x:aa},w.cell? ⟨b,o,none⟩=some x->b≠mb:=λ{b o x} hx e=>by
  obtain⟨es,ck,hb,_⟩:=h.l;subst e;unfold aO at hx;rw[hb]at hx;cases hx
 have cell:∀{b o:Nat} {x:aa},w.cell? ⟨b,o,none⟩=some x->w1.cell? ⟨b,o,none⟩=some x:=λhx=>(xcb (hb.keep _ (xbl w _ hx) (ne hx))).trans hx;exact⟨cell h.c0,cell h.c1,cell h.c2,cell h.d,cell h.v,cell h.m,hm⟩
theorem ChW.drew {mv:Option Addr} {v:ByteArray} (h:ChW cb cl n db mb mv L k v g w):ChW cb cl n db mb mv L k v g w.drew:=h.below (w1:=w.drew) ⟨rfl,rfl,rfl,ji _,λ_ _=>rfl⟩
theorem IV {w:ac} {db mb:Nat} {L:KV} (hd:w.cell? ⟨db,0,none⟩=some (.map (some mb))) (hm:jv w mb L):aK prog 68 #[.pointer (some ⟨db,0,none⟩)] w λe w'=>e=.returned (.int .i64 L.length)/\w=w':=
 (jjg hd hm).mono λ_ _ h=>⟨h.1,h.2.symm⟩
def jb0 (w:ac) (mb:Nat) (L:KV) (c:Int) (e:cP) (w':ac):Prop:=e=.returned (.int .i64 c)/\jv w' mb L/\But (· =mb) w w'
theorem q1n {mv:Option Addr} {W:ac} {v:ByteArray} (h:A/\B/\Hid (ChW W.heap.size cl n db mb mv L k v g w1/\aE W.heap.size W w1)) (hk:k.size<=bi):
  aK prog 42 #[.pointer (some ⟨db,0,none⟩),.string k] w1 λe w'=>(e=.returned (.tuple #[sv ((jb L k.data.toList).getD []),.bool (jb L k.data.toList).isSome]))/\ChW W.heap.size cl n db mb mv L k v g w'/\aE W.heap.size W w':=
 (Ns h.2.2.out.1.m h.2.2.out.1.l k hk).mono λe w' ⟨h1,h2⟩=>⟨h1,h.2.2.out.1.below h2,h.2.2.out.2.trans (h2.mono h.2.2.out.2.size)⟩
def oP (L:KV) (k v:Bs) (g:Bool):Int:=if 12<v.length then 3 else if !g&&!(jb L k).isSome&&L.length==12 then 4 else if g&&!(jb L k).isSome then 6 else 0
def chL (L:KV) (k v:Bs) (g:Bool):KV:=if oP L k v g=0 then(if g then jT L k else lU L k v)else L
theorem U7 {L:KV} {k v:Bs} (h:12<v.length):oP L k v g=3/\chL L k v g=L:=by
 have:oP L k v g=3:=by unfold oP;rw[if_pos h]
 exact⟨this,by unfold chL;rw[this];rfl⟩
theorem LC {L:KV} {k v:Bs} (h:¬12<v.length):
  (g=false->(jb L k).isSome=false->L.length=12->oP L k v g=4/\chL L k v g=L)/\(g=false->((jb L k).isSome=true\/L.length≠12)->oP L k v g=0/\chL L k v g=lU L k v)/\
  (g=true->(jb L k).isSome=false->oP L k v g=6/\chL L k v g=L)/\(g=true->(jb L k).isSome=true->oP L k v g=0/\chL L k v g=jT L k):=by
 unfold chL oP;rw[if_neg h];refine⟨λh1 h2 h3=>?_,λh1 h2=>?_,λh1 h2=>?_,λh1 h2=>?_⟩
 ·subst h1;simp[h2,h3]
 ·subst h1;rcases h2 with h2|h2<;>simp[h2]
 ·subst h1;simp[h2]
 ·subst h1;simp[h2]
theorem qtk (k v:ByteArray) (g:Bool) (n:Nat) (hn:n<4) (hk:iT k.data.toList=true) (mY:je k.data.toList=n) (iQ:k.size<=bi) (hL:L.length<=12) (hp:rZ w cl n db mb none L):
  aK prog 40 #[.pointer (some ⟨cl,0,none⟩),.agg #[.string k,.string v,.bool g]] w (jb0 w mb (chL L k.data.toList v.data.toList g) (oP L k.data.toList v.data.toList g)):=by
 have Dh:((n:Int)<4):=by omega
 go_enter func40,ntmps40;go_wp2_with (go_at_call 41;refine(FP _ _ hk).mono ?_;rintro e w1 ⟨rfl,hb⟩;rw[mY])
 obtain⟨jW,nE⟩:=ChW.of hp hb;clear hb hp;have Ig:=Hd nE;have qI:=Hd jW;obtain⟨c0,c1,c2,pd,pv,pm,pl⟩:=id jW;clear nE jW pl;go_region_held3 (λw'=>w'.cell? ⟨cl,1+n*3+1,none⟩=some (.pointer (some ⟨db,0,none⟩))/\w'.cell? ⟨w.heap.size,0,none⟩=some (.string k)/\Hid (ChW w.heap.size cl n db mb none L k v g w'/\aE w.heap.size w w'))
  (first|exact⟨pd,c0,Hd ⟨qI.drew,Ig.drew⟩⟩|exact⟨(iR.1).d,(iR.1).c0,iR⟩)
  (first|(go_at_call 42;refine(q1n (by assumption) iQ).mono ?_;rintro e w2 ⟨rfl,mD⟩;have iR:=Hd mD;clear mD))
 obtain⟨has,kZ⟩:∃b,(jb L k.data.toList).isSome=b:=⟨_,rfl⟩
 rw[kZ];have HF:=Hd kZ;clear kZ;generalize sv ((jb L k.data.toList).getD [])=gv;obtain⟨e0,e1,e2,ed,ev,em,el⟩:=iR.1;have EL:=Hd el;have iE:=Hd (But.of_below (B:=(· =mb)) iR.2);clear el;by_cases mI:12<v.size
 ·have HE:=Hd (U7 (L:=L) (k:=k.data.toList) (g:=g) (v:=v.data.toList) (by simpa using mI));have g1:decide ((12:Int)<v.size)=true:=by simp;omega
  go_wp2;go_ret;exact⟨by rw[HE.1];rfl,by rw[HE.2];exact EL.o,iE.o⟩
 have HG:=Hd (LC (L:=L) (k:=k.data.toList) (g:=g) (v:=v.data.toList) (by simpa using mI));rw[HF.o]at HG;have g1:decide ((12:Int)<v.size)=false:=by simp;omega
 cases g
 ·cases has
  ·by_cases pV:L.length=12
   ·have HE:=Hd (HG.1 rfl rfl pV);go_wp2_with (go_at_call 68;refine(IV em EL.o).mono ?_;rintro e w' ⟨rfl,rfl⟩)
    go_ret;exact⟨by rw[HE.1];rfl,by rw[HE.2];exact EL.o,iE.o⟩
   ·have HE:=Hd (HG.2.1 rfl (.inr pV));go_wp2_with (go_at_call 68;refine(IV em EL.o).mono ?_;rintro e w' ⟨rfl,rfl⟩)
    refine aZ 5 (by kernel_rfl) (by kernel_rfl) ?_;change wpStill _ _ w2.drew (λa'=>wpList _ _ _ _ a' w2.drew) _ _;simp only[bg,bJ,bh,bK];repeat still_step
    refine co ?_;go_wp2_with (go_at_call 69;refine(FQ (w:=w2.drew) em (EL.block rfl) (by omega) k v iQ).mono ?_;rintro e w3 ⟨rfl,oV,fO⟩;have mE:=Hd (iR.1.drew.but fO oV);have kU:=Hd (iE.drew.trans fO);obtain⟨f0,f1,f2,fd,fv,fm,fl⟩:=mE.o;clear fl oV fO)
    go_ret;exact⟨by rw[HE.1];rfl,by rw[HE.2];exact mE.l,kU.o⟩
  ·have HE:=Hd (HG.2.1 rfl (.inl rfl));go_wp2;refine aZ 5 (by kernel_rfl) (by kernel_rfl) ?_;change wpStill _ _ w2.drew (λa'=>wpList _ _ _ _ a' w2.drew) _ _;simp only[bg,bJ,bh,bK];repeat still_step
   refine co ?_;go_wp2_with (go_at_call 69;refine(FQ (w:=w2.drew) em (EL.block rfl) (by omega) k v iQ).mono ?_;rintro e w3 ⟨rfl,oV,fO⟩;have mE:=Hd (iR.1.drew.but fO oV);have kU:=Hd (iE.drew.trans fO);obtain⟨f0,f1,f2,fd,fv,fm,fl⟩:=mE.o;clear fl oV fO)
   go_ret;exact⟨by rw[HE.1];rfl,by rw[HE.2];exact mE.l,kU.o⟩
 ·cases has
  ·have HE:=Hd (HG.2.2.1 rfl rfl);go_wp2;go_ret;exact⟨by rw[HE.1];rfl,by rw[HE.2];exact EL.o,iE.o⟩
  ·have HE:=Hd (HG.2.2.2 rfl rfl);go_wp2;refine aZ 5 (by kernel_rfl) (by kernel_rfl) ?_;change wpStill _ _ w2.drew (λa'=>wpList _ _ _ _ a' w2.drew) _ _;simp only[bg,bJ,bh,bK];repeat still_step
   refine co ?_;go_wp2_with (go_at_call 69;refine(LA (w:=w2.drew) em (EL.block rfl) k v iQ).mono ?_;rintro e w3 ⟨rfl,oV,fO⟩;have mE:=Hd (iR.1.drew.but fO oV);have kU:=Hd (iE.drew.trans fO);obtain⟨f0,f1,f2,fd,fv,fm,fl⟩:=mE.o;clear fl oV fO)
   go_ret;exact⟨by rw[HE.1];rfl,by rw[HE.2];exact mE.l,kU.o⟩
end
structure Clu (w:ac) (cl:Nat) (db mb:Nat->Nat) (L:Nat->KV):Prop where
 p:∀i,i<4->∃mv,rZ w cl i (db i) (mb i) mv (L i)
 ne:∀i j,i<4->j<4->mb i=mb j->i=j
 len:∀i,i<4->(L i).length<=12
def vv (L:Nat->KV) (n:Nat) (x:KV):Nat->KV:=λi=>if i=n then x else L i
theorem EJ (k:Bs):je k<4:=by
 unfold je shd;split
 ·decide
 ·split
  ·decide
  ·split<;>decide
section
variable {w w':ac} {cl:Nat} {db mb:Nat->Nat} {L:Nat->KV}
def xZ (L:Nat->KV) (k:Bs):Bs:=if iT k then(jb (L (je k)) k).getD []else[]
def yA (L:Nat->KV) (k:Bs):Int:=if iT k then(if(jb (L (je k)) k).isSome then 0 else 6)else 2
def Ms (w:ac) (v:Bs) (c:Int) (e:cP) (w':ac):Prop:=e=.returned (.tuple #[sv v,.int .i64 c])/\aE w.heap.size w w'
theorem Ry (h:Clu w cl db mb L) (k:ByteArray) (hs:k.size<=bi):
  aK prog 19 #[.pointer (some ⟨cl,0,none⟩),.string k] w (Ms w (xZ L k.data.toList) (yA L k.data.toList)):=by
 have HH:=Hd h;clear h;cases hk:iT k.data.toList
 ·have HK:=Hd hk;clear hk;go_enter func19,ntmps19;go_wp2_with (go_at_call 41;refine(Nl _ _ HK.o hs).mono ?_;rintro e w1 ⟨rfl,hb⟩)
  go_ret2;unfold xZ yA;rw[HK.o];exact⟨rfl,hb⟩
 ·have HK:=Hd hk;clear hk;have hn:=EJ k.data.toList;obtain⟨mv,hp⟩:=HH.p _ hn;have HG:Hid (xZ L k.data.toList=(jb (L (je k.data.toList)) k.data.toList).getD []/\yA L k.data.toList=if(jb (L (je k.data.toList)) k.data.toList).isSome then 0 else 6):=by
   unfold xZ yA;rw[HK.o];exact⟨rfl,rfl⟩
  generalize xG:je k.data.toList=n at*;have HN:=Hd xG;have HP:=Hd hp;obtain⟨x,hx⟩:∃x,jb (L n) k.data.toList=x:=⟨_,rfl⟩
  rw[hx]at HG;have HX:=Hd hx;clear hp xG hx;have Dh:((n:Int)<4):=by omega
  cases x;all_goals
   go_enter func19,ntmps19;go_wp2_with (first
    |(go_at_call 41;refine(FP _ _ HK.o).mono ?_;rintro e w1 ⟨rfl,hb⟩;rw[HN.o];have Xx:=Hd (HP.below hb);have DI:=Hd hb;obtain⟨pd,pv,pm,pl⟩:=Xx.o;clear hb pl)
    |(go_at_call 42;refine(Ns pm Xx.l k hs).mono ?_;rintro e w2 ⟨rfl,fJ⟩;rw[HX.o];have iE:=Hd (DI.trans (fJ.mono DI.size));clear fJ))
   go_ret2;exact⟨by rw[HG.1,HG.2];rfl,iE.o⟩
end
structure Mdl (w:ac) (ml sb:Nat) (lv:Nat->aa) (mp:Nat->Option Addr) (L:Nat->KV):Prop where
 s:∃cap,w.cell? ⟨ml,1,none⟩=some (.slice (some ⟨sb,0,none⟩) 4 cap)
 t:∃mc,w.heap[ml]?=some (.cells mc 101 (0,0))
 b:∃cur,w.heap[sb]?=some (.cells cur 104 (0,0))/\∀i,i<4->cur[i*3+1]?=some (lv i)/\cur[i*3+2]?=some (.pointer (mp i))/\∃o:Int,cur[i*3]?=some (.int .i64 o)
 r:∀i,i<4->jU w 0 (lv i) (L i)
def qi {α:Type} (L:Nat->α) (n:Nat) (x:α):Nat->α:=λi=>if i=n then x else L i
theorem qx {α:Type} (L:Nat->α) (n:Nat) (x:α):qi L n x n=x:=by unfold qi;rw[if_pos rfl]
theorem qw {α:Type} (L:Nat->α) (x:α) (h:i≠n):qi L n x i=L i:=by unfold qi;rw[if_neg h]
section
variable {w w':ac} {ml sb:Nat} {lv:Nat->aa} {mp:Nat->Option Addr} {L:Nat->KV}
theorem jU.block {v:aa} {l:KV} (h:jU w 0 v l) (k:∀g,v.ownBlock=some g->w'.heap[g]?=w.heap[g]?):jU w' 0 v l:=by
 refine⟨⟨h.1.1,h.1.2.imp id ?_⟩,h.2.block k⟩;rintro⟨g,cap,cur,rfl,h1,h2,h3⟩;exact⟨g,cap,cur,rfl,h1,(k g rfl).trans h2,h3⟩
end
theorem But.setCell {B:Nat->Prop} (h:But B w w') (hb:B b) (o:Nat) (v:aa):But B w (w'.setCell ⟨b,o,none⟩ v):=
 ⟨by simpa using h.size,λk hk hn=>(xho w' _ k v λe=>hn (by subst e;exact hb)).trans (h.keep k hk hn),h.os,h.output⟩
section
variable {w:ac} {ml sb:Nat} {lv:Nat->aa} {mp:Nat->Option Addr} {L:Nat->KV}
theorem SK {α:Type} (L:Nat->α) (n:Nat):qi L n (L n)=L:=by
 funext i;unfold qi;split
 ·rename_i h;rw[h]
 ·rfl
theorem Yx {v:aa} {l:KV} (h:jU w b v l):∃sa cp,v=.slice sa l.length cp:=by
 rcases h.1.2 with⟨rfl,hz⟩|⟨g,cap,cur,rfl,_⟩
 ·exact⟨none,0,by rw[hz]⟩
 ·exact⟨_,_,rfl⟩
end
section
variable {w:ac} {ml sb:Nat} {lv:Nat->aa} {mp:Nat->Option Addr} {L:Nat->KV}
end
def SS (x:Nat->aa):Array aa:=#[x 0,x 1,x 2,x 3,x 4,x 5,x 6,x 7,x 8,x 9,x 10,x 11,x 12,x 13,x 14,x 15,x 16,x 17,x 18,x 19,x 20,x 21,x 22,x 23,x 24,x 25,x 26,x 27,x 28,x 29,x 30,x 31,x 32,x 33,x 34,x 35,x 36,x 37,x 38,x 39,x 40,x 41,x 42,x 43,x 44,x 45,x 46,x 47,x 48,x 49,x 50,x 51,x 52,x 53,x 54,x 55,x 56,x 57,x 58,x 59,x 60,x 61,x 62,x 63,x 64,x 65,x 66,x 67,x 68,x 69,x 70,x 71,x 72,x 73,x 74,x 75,x 76,x 77,x 78,x 79,x 80,x 81,x 82,x 83,x 84,x 85,x 86,x 87,x 88,x 89,x 90,x 91,x 92,x 93,x 94,x 95,x 96,x 97,x 98,x 99,x 100,x 101,x 102,x 103,x 104,x 105,x 106,x 107,x 108,x 109,x 110,x 111,x 112,x 113,x 114,x 115,x 116,x 117,x 118,x 119,x 120,x 121,x 122,x 123,x 124,x 125,x 126,x 127,x 128,x 129,x 130,x 131,x 132,x 133,x 134,x 135,x 136,x 137,x 138,x 139,x 140,x 141,x 142,x 143,x 144,x 145,x 146,x 147,x 148,x 149,x 150,x 151,x 152,x 153,x 154,x 155,x 156,x 157,x 158,x 159,x 160,x 161,x 162,x 163,x 164,x 165,x 166,x 167,x 168,x 169,x 170,x 171,x 172,x 173,x 174,x 175,x 176,x 177,x 178,x 179,x 180,x 181,x 182,x 183,x 184,x 185,x 186,x 187,x 188,x 189,x 190,x 191,x 192,x 193,x 194,x 195,x 196,x 197,x 198,x 199,x 200,x 201,x 202,x 203,x 204,x 205,x 206,x 207,x 208,x 209,x 210,x 211,x 212,x 213,x 214,x 215,x 216,x 217,x 218,x 219,x 220,x 221,x 222,x 223]
def upd (x:Nat->aa) (j:Nat) (v:aa):Nat->aa:=λi=>if i=j then v else x i
theorem qb {v:aa} (h:x j=v):∃y,x=upd y j v:=⟨x,by funext i;unfold upd;split<;>simp_all⟩
def hd1:Code->Code
 |.seq a _=>a
 |c=>c
structure OpV where
 k:Int
 a:Int
 b:Int
 c:Int
 d:Int
 e:Int
 f:Int
 s:ByteArray
 t:ByteArray
 u:ByteArray
section
variable {x:Nat->aa} {w:ac} {Q:Exit->Act->ac->Prop} {o:OpV} {W ob:Nat}
end
namespace Ph
section
open Go.Conc Go.ConcN Go.RowKit Go.Maps Go.Conc.Lib Go Sim
theorem But.same' {B:Nat->Prop} {wc:ac} (s:Same w wc):But B w wc:=⟨by rw[s.heap];exact ji _,λk _ _=>by rw[s.heap],s.os,s.output⟩
structure OpV.Ok (o:OpV):Prop where
 k: -9223372036854775808<=o.k/\o.k<=9223372036854775807
 a: -9223372036854775808<=o.a/\o.a<=9223372036854775807
 b: -9223372036854775808<=o.b/\o.b<=9223372036854775807
 c: -9223372036854775808<=o.c/\o.c<=9223372036854775807
 d: -9223372036854775808<=o.d/\o.d<=9223372036854775807
 e: -9223372036854775808<=o.e/\o.e<=9223372036854775807
 f: -9223372036854775808<=o.f/\o.f<=9223372036854775807
 s:o.s.size<=140737488355328
 t:o.t.size<=140737488355328
 u:o.u.size<=140737488355328
end
section
open Go.Conc Go.ConcN Go.RowKit Go.Conc.Lib Go Sim
open Go.ChangeShapes Go.WideShapes Go.ChangeAt
theorem q2j:laidOutB prog=true:=by kernel_rfl
theorem q3k:ownKnob prog.godebug=none:=by kernel_rfl
section
variable {H:Type} {enc:aw×aa->H}
theorem Zo {args:Array aa} {W:ac} {N:Blocks} {Post:aa->ac->Prop} (kR:FSb (λ_ _=>False) (Frame.enter XG.P f args .normal)) (hi:XG.P.inits.idxOf? f=none)
  (h:ql N [] [] (Frame.enter XG.P f args .normal) W [] (Ret f λv w'=>v=.bool true/\But (λb=>W.heap.size<=b) W w')) (hp:∀w',But (λb=>W.heap.size<=b) W w'->Post (.bool true) w'):
  ∃M last o w' t',runNT XG.P (M+1) (solo (G (Frame.enter XG.P f args .normal) []) W) #[]=(.ended o w',t')/\runN XG.P M (solo (G (Frame.enter XG.P f args .normal) []) W)=.next last/\step XG.P last=.ended o w'/\Conc.Good XG.P Post last o w' t':=
 q6l (ρ:=λ_ _=>False) h kR ⟨λh _=>h.elim,λh _=>h.elim,λh=>h.elim,λ_ _=>rfl,λ_ h=>h.elim⟩ (λv hv=>by cases hv) hi
  λv w1 wc s ⟨h1,h2⟩=>by subst h1;exact hp wc (h2.trans (But.same' s))
theorem q0q {t:aw} (hr:prog.readableRec t=true) (nG:t<prog.types.size) {W W':ac} {v:aa} {d:DataW H} {ps:List cB} (h:DataW.Trod enc prog W 0 (λ_=>true) true t v d ps) (hb:But (λb=>W.heap.size<=b) W W') (dY:∀x∈ps,x.block<W.heap.size):
  DataW.Trod enc prog W' 0 (λb=>decide (b<W.heap.size)) true t v d ps:=
 WideElems.Trod_stays q2j hr nG h (λx hx=>by
  have Km:=dY x hx;cases x with
  |cell b o=>exact xcb (w:=W) (hb.keep b Km (cC.2 Km))
  |map b=>exact hb.keep b Km (cC.2 Km)) (λx hx=>by simpa using dY x hx)
theorem Y9 {W:ac} (h:But (λb=>W.heap.size<=b) W w') (may:cB->Prop):W.keptBut w' may:=by
 refine⟨h.os,h.output,λi hi=>?_⟩;rw[h.keep i hi (cC.2 hi)];split<;>simp_all
end
end
section
open Go.Conc Go.ConcN Go.RowKit Go.Maps Go.Conc.Lib Go Sim
def lay (n:Nat) (x:Nat->aa):Array aa:=((ag n).map x).toArray
section
variable {n j:Nat} {x:Nat->aa} {v:aa}
theorem Eu (h:j<n):(lay n x)[j]?=some (x j):=by simp[lay,h]
theorem Gc (h:j<n):(lay n x).getD j bD=x j:=by
 rw[aC,Eu h];rfl
theorem CG:(lay n x).setIfInBounds j v=lay n (upd x j v):=by
 apply dq
 ·simp[lay]
 ·intro i h1 h2;simp only[lay,Array.size_setIfInBounds,bU,cu,List.length_range]at h1 h2;rw[Array.getElem_setIfInBounds]
  ·simp only[lay,upd,List.getElem_toArray,List.getElem_map,List.getElem_range];by_cases e:j=i
   ·rw[if_pos e,if_pos e.symm]
   ·rw[if_neg e,if_neg λh=>e h.symm]
  ·simpa[lay]using h1
theorem AX {t:Array aa} (h:t.size=n):lay n (λi=>t.getD i bD)=t:=by
 apply dq
 ·simp[lay,h]
 ·intro i h1 h2;simp only[lay,List.getElem_toArray,List.getElem_map,List.getElem_range];rw[aC,az h2];rfl
abbrev evx (n:Nat) (x:Nat->aa):aX->aa:=(bB (lay n x) []).eval
theorem q6a (h:j<n):evx n x (.tmp j)=x j:=Gc h
theorem tmp {n j:Nat} {x:Nat->aa} {v:aa} (h:j<n) (e:x j=v):evx n x (.tmp j)=v:=(q6a h).trans e
theorem jc {n j:Nat} {x:Nat->aa} {v:aa} (e:x j=v) (h:j<n:=by decide):evx n x (.tmp j)=v:=tmp h e
end
def Pure (e:aX->aa) (o:Oper) (v:aa):Prop:= ∀w,(ax e o).run prog w=.ok (.value v) w/\(ax e o).events prog w #[]=#[]
section
variable {e:aX->aa} {o:Oper} {a b c:aX} {v:aa} {m n:Int} {t u:Bool} {ty:aw}
end
def ek (l:List (Nat×aa)):aX->aa
 |.tmp j=>(l.lookup j).getD bD
 |.const v=>v
 |_=>bD
section
variable {N:Blocks} {kv:List aa} {cs eT:List cq} {w:ac} {Z:cq->ac->Prop} {b:cq} {k:List Item} {n i j:Nat} {x:Nat->aa} {ops:Array Oper} {td:List Nat} {o:Oper}
end
section
variable {e:aX->aa} {o:Oper} {a b c:aX} {v:aa} {m n:Int} {t u:Bool} {ty:aw} {p:Option Addr} {l cp:Nat}
end
section
variable {N:Blocks} {kv:List aa} {cs eT:List cq} {w:ac} {Z:cq->ac->Prop} {b:cq} {k:List Item} {n i j:Nat} {x:Nat->aa} {ops:Array Oper} {td:List Nat} {o:Oper} {ty:aw} {a:Nat} {g f:Nat}
end
end
end Ph
section
def poly:Nat:=2197175160
def vN (x:Nat):Nat:=if x%2=1 then(x/2)^^^poly else x/2
def U6 (x bit:Nat):Nat:=if bit≠x%2 then(x/2)^^^poly else x/2
def wY:Nat->Nat->Nat
 |0,x=>x
 |k+1,x=>vN (wY k x)
def FY (b:Nat):Nat->Nat->Nat
 |0,x=>x
 |k+1,x=>U6 (FY b k x) (b/2^k%2)
theorem q4w (a b:Nat):(a^^^b)/2=(a/2)^^^(b/2):=by
 apply Nat.eq_of_testBit_eq;intro i;simp[Nat.testBit_div_two,Nat.testBit_xor]
theorem jaj (a b:Nat):(a^^^b)%2=(a%2+b%2)%2:=by
 have h:=Nat.testBit_xor a b 0;simp only[Nat.testBit_zero]at h;have e1:=ai a;have e2:=ai b;have e3:=ai (a^^^b);rcases e1 with e1|e1<;>rcases e2 with e2|e2<;>rcases e3 with e3|e3<;>simp[e1,e2,e3]at h⊢
theorem q0y (x b:Nat):∀k,wY k (x^^^b)=FY b k x^^^(b/2^k)
 |0=>by simp[wY,FY]
 |k+1=>by
  rw[wY,FY,q0y x b k];have hd:b/2^(k+1)=b/2^k/2:=by rw[aH,Nat.div_div_eq_div_mul]
  rw[hd];generalize FY b k x=m;generalize b/2^k=c;unfold vN U6;rw[jaj,q4w];have e1:=ai m;have e2:=ai c;have sw:(m/2^^^c/2)^^^poly=(m/2^^^poly)^^^c/2:=by rw[Nat.xor_assoc,Nat.xor_assoc,Nat.xor_comm (c/2) poly]
  rcases e1 with e1|e1<;>rcases e2 with e2|e2<;>simp[e1,e2,sw]
theorem q9g:poly<2^32:=by decide
theorem qtm {x:Nat} (h:x<2^32):vN x<2^32:=by
 unfold vN;split
 ·exact av (by omega) q9g
 ·omega
theorem Gj {x:Nat} (h:x<2^32):∀k,wY k x<2^32
 |0=>h
 |k+1=>qtm (Gj h k)
def CJ (x:Nat) (b:UInt8):Nat:=wY 8 (x^^^b.toNat)
theorem uK (b:UInt8):b.toNat<256:=b.toNat_lt
theorem Gi {x:Nat} {b:UInt8} (h:x<2^32):CJ x b<2^32:=Gj (av h (by have:=uK b;omega)) 8
def si (l:List UInt8):Nat:=l.foldl CJ 4294967295
theorem Ra:∀(l:List UInt8) (x:Nat),x<2^32->l.foldl CJ x<2^32
 |[],_,h=>h
 |_::l,_,h=>Ra l _ (Gi h)
theorem EN (l:List UInt8):si l<2^32:=Ra l _ (by decide)
theorem qo4 (l:List UInt8) (b:UInt8):si (l++[b])=CJ (si l) b:=by simp[si]
def chk (l:List UInt8):Nat:=4294967295-si l
theorem I7 (l:List UInt8):chk l<2^32:=by unfold chk;omega
theorem qq5 {x y:Nat} (hx:x<2^32) (hy:y<2^32) (h:vN x=vN y):x=y:=by
 have hp:∀{z:Nat},z<2^32->(z/2).testBit 31=false:=λ{z} hz=>Nat.testBit_lt_two_pow (by omega);have ht:poly.testBit 31=true:=by decide
 have top:∀{z:Nat},z<2^32->(vN z).testBit 31=decide (z%2=1):=λ{z} hz=>by
  unfold vN;by_cases e:z%2=1
  ·rw[if_pos e,Nat.testBit_xor,hp hz,ht];simp[e]
  ·rw[if_neg e,hp hz];simp[e]
 have hb:decide (x%2=1)=decide (y%2=1):=by rw[<-top hx,<-top hy,h]
 have hm:x%2=y%2:=by
  have e1:=ai x;have e2:=ai y;rcases e1 with e1|e1<;>rcases e2 with e2|e2<;>simp[e1,e2]at hb⊢
 have hd:x/2=y/2:=by
  unfold vN at h;by_cases e:x%2=1
  ·rw[if_pos e,if_pos (hm▸e)]at h;have:=congrArg (· ^^^poly) h;simpa[Nat.xor_assoc]using this
  ·rw[if_neg e,if_neg (hm▸e)]at h;exact h
 omega
theorem Ng {x y:Nat} (hx:x<2^32) (hy:y<2^32):∀k,wY k x=wY k y->x=y
 |0,h=>h
 |k+1,h=>Ng hx hy k (qq5 (Gj hx k) (Gj hy k) h)
theorem R3:∀(l:List UInt8) {x y:Nat},x<2^32->y<2^32->l.foldl CJ x=l.foldl CJ y->x=y
 |[],_,_,_,_,h=>h
 |b::l,x,y,hx,hy,h=>by
  have h1:=R3 l (Gi hx) (Gi hy) h;have h2:=Ng (av hx (by have:=uK b;omega)) (av hy (by have:=uK b;omega)) 8 h1;have:=congrArg (· ^^^b.toNat) h2;simpa[Nat.xor_assoc]using this
theorem qq4 (l r:List UInt8) {a b:UInt8} (h:a≠b):chk (l++a::r)≠chk (l++b::r):=by
 intro e;have e1:si (l++a::r)=si (l++b::r):=by
  have h1:=EN (l++a::r);have h2:=EN (l++b::r);unfold chk at e;omega
 unfold si at e1;rw[List.foldl_append,List.foldl_append,cw,cw]at e1;have hl:=EN l;unfold si at hl;have h1:=R3 r (Gi hl) (Gi hl) e1;have h2:=Ng (av hl (by have:=uK a;omega)) (av hl (by have:=uK b;omega)) 8 h1;have h3:=congrArg (List.foldl CJ 4294967295 l^^^·) h2;simp only[<-Nat.xor_assoc,Nat.xor_self,Nat.zero_xor]at h3;exact h (UInt8.toNat_inj.1 h3)
def b8 (n:Nat):UInt8:=UInt8.ofNat n
def vz (n:Nat):List UInt8:=if h:n<128 then[b8 n]else b8 (128+n%128)::vz (n/128)
termination_by n
decreasing_by omega
theorem vo (h:n<128):vz n=[b8 n]:=by rw[vz,dif_pos h]
theorem yR (h:¬n<128):vz n=b8 (128+n%128)::vz (n/128):=by rw[vz,dif_neg h]
def ve (s:List UInt8):List UInt8:=vz s.length++s
def nX:Nat->Bool->Nat->Nat->List UInt8->Option (Nat×List UInt8)
 |0,_,_,_,_=>none
 |_+1,_,_,_,[]=>none
 |k+1,first,a,m,b::s=>if !first&&b.toNat==0 then none else if b.toNat<128 then some (a+b.toNat*m,s)else nX k false (a+b.toNat%128*m) (m*128) s
def xu (s:List UInt8):Option (Nat×List UInt8):=nX 4 true 0 1 s
def kg (s:List UInt8):Option (List UInt8×List UInt8):=(xu s).bind λp=>if p.2.length<p.1 then none else some (p.2.take p.1,p.2.drop p.1)
theorem Q0:∀(k:Nat) (first:Bool) (a m:Nat) (s:List UInt8) (n:Nat) (r:List UInt8),nX k first a m s=some (n,r)->∃d,n=a+d*m/\s=vz d++r/\(first=false->0<d)/\d<128^k
 |0,_,_,_,_,_,_,h=>by simp[nX]at h
 |_+1,_,_,_,[],_,_,h=>by simp[nX]at h
 |k+1,first,a,m,b::s,n,r,h=>by
  rw[nX]at h;split at h
  ·cases h
  ·rename_i hb;split at h
   ·rename_i h1;simp only[bm,Prod.mk.injEq]at h;obtain⟨rfl,rfl⟩:=h;refine⟨b.toNat,rfl,?_,λhf=>?_,?_⟩
    ·rw[vo h1];simp[b8]
    ·subst hf;simp at hb;omega
    ·calc b.toNat<128:=h1
      _=128^1:=rfl
      _<=128^(k+1):=bd (by decide) (by omega)
   ·rename_i h1;obtain⟨d,h2,h3,h4,h5⟩:=Q0 k false _ _ s n r h;have fJ:=uK b;refine⟨b.toNat%128+128*d,?_,?_,λ_=>by have:=h4 rfl;omega,?_⟩
    ·have e0:d*(m*128)=128*d*m:=by rw[Nat.mul_comm m 128,<-Nat.mul_assoc,Nat.mul_comm d 128]
     rw[h2,e0,Nat.add_mul];omega
    ·have hp:=h4 rfl;rw[yR (by omega),h3];have e1:(b.toNat%128+128*d)%128=b.toNat-128:=by omega
     have e2:(b.toNat%128+128*d)/128=d:=by omega
     rw[e1,e2];have e3:b8 (128+(b.toNat-128))=b:=by
      have:128+(b.toNat-128)=b.toNat:=by omega
      rw[this];simp[b8]
     rw[e3];rfl
    ·rw[aH];omega
theorem Sk:∀(k:Nat) (first:Bool) (a m d:Nat) (r:List UInt8),d<128^(k+1)->(first=false->0<d)->nX (k+1) first a m (vz d++r)=some (a+d*m,r)
 |k,first,a,m,d,r,hd,hf=>by
  by_cases h:d<128
  ·rw[vo h];have e:(b8 d).toNat=d:=by simp[b8];omega
   show nX (k+1) first a m (b8 d::r)=_
   rw[nX,e,if_neg (by cases first<;>simp;have:=hf rfl;omega),if_pos h]
  ·rw[yR h];have e:(b8 (128+d%128)).toNat=128+d%128:=by simp[b8];omega
   show nX (k+1) first a m (b8 (128+d%128)::(vz (d/128)++r))=_
   rw[nX,e,if_neg (by simp),if_neg (by omega)];match k,hd with
   |0,hd=>omega
   |k+1,hd=>
    rw[Sk k false _ _ (d/128) r (by rw[aH]at hd;exact Nat.div_lt_of_lt_mul (by omega)) (λ_=>by omega)];have e2:(128+d%128)%128=d%128:=by omega
    rw[e2];have e3:d%128*m+d/128*(m*128)=d*m:=by
     have:d=d%128+d/128*128:=by omega
     calc d%128*m+d/128*(m*128)=(d%128+d/128*128)*m:=by rw[Nat.add_mul,Nat.mul_assoc,Nat.mul_comm 128 m]
      _=d*m:=by rw[<-this]
    rw[<-e3,Nat.add_assoc]
theorem ME {r:List UInt8} (h:xu s=some (n,r)):s=vz n++r/\n<268435456:=by
 obtain⟨d,h1,h2,_,h4⟩:=Q0 4 true 0 1 s n r h;have:n=d:=by omega
 subst this;exact⟨h2,h4⟩
theorem EM (h:n<268435456) (r:List UInt8):xu (vz n++r)=some (n,r):=by
 have:=Sk 3 true 0 1 n r h (λe=>by cases e);simpa[xu]using this
theorem Z0 {t r:List UInt8} (h:kg s=some (t,r)):s=ve t++r/\t.length<268435456:=by
 unfold kg at h;cases hn:xu s with
 |none=>rw[hn]at h;cases h
 |some p=>
  obtain⟨n,q⟩:=p;rw[hn]at h;simp only[aD]at h;split at h
  ·cases h
  ·rename_i hl;simp only[bm,Prod.mk.injEq]at h;obtain⟨rfl,rfl⟩:=h;obtain⟨h1,h2⟩:=ME hn;have hlen:(q.take n).length=n:=by rw[List.length_take];omega
   refine⟨?_,by omega⟩;unfold ve;rw[hlen,h1,bV,bG]
theorem EO {t:List UInt8} (h:t.length<268435456) (r:List UInt8):kg (ve t++r)=some (t,r):=by
 unfold kg ve;rw[bV,EM h];simp
structure Fr where
 kind:Nat
 qg:Nat
 id:Nat
 n:Nat
 load:List UInt8
def le4 (x:Nat):List UInt8:=[b8 x,b8 (x/256),b8 (x/65536),b8 (x/16777216)]
def Fr.body (f:Fr):List UInt8:=[b8 f.kind,b8 f.qg]++vz f.id++vz f.n++ve f.load
def Fr.bytes (f:Fr):List UInt8:=f.body++le4 (chk f.body)
structure Fr.Ok (f:Fr):Prop where
 kind:f.kind<256
 qg:f.qg<256
 id:f.id<268435456
 n:f.n<268435456
 load:f.load.length<268435456
def parse:List UInt8->Option Fr
 |k::sh::r=>(xu r).bind λp=>(xu p.2).bind λq=>(kg q.2).bind λt=>if t.2=[]then some ⟨k.toNat,sh.toNat,p.1,q.1,t.1⟩else none
 |_=>none
def jM (s:List UInt8):Option Fr:=if s.length<4 then none else if s.drop (s.length-4)=le4 (chk (s.take (s.length-4)))then parse (s.take (s.length-4))else none
theorem q0e (b:UInt8):b8 b.toNat=b:=by simp[b8]
theorem AZ (h:n<256):(b8 n).toNat=n:=by simp[b8];omega
theorem q3q {f:Fr} (h:parse s=some f):s=f.body/\f.Ok:=by
 unfold parse at h;split at h
 ·rename_i k sh r;cases h1:xu r with
  |none=>rw[h1]at h;cases h
  |some p=>
   obtain⟨id,r1⟩:=p;rw[h1]at h;simp only[aD]at h;cases h2:xu r1 with
   |none=>rw[h2]at h;cases h
   |some q=>
    obtain⟨n,r2⟩:=q;rw[h2]at h;simp only[aD]at h;cases h3:kg r2 with
    |none=>rw[h3]at h;cases h
    |some t=>
     obtain⟨t,r3⟩:=t;rw[h3]at h;simp only[aD]at h;split at h
     ·rename_i h4;cases h;subst h4;obtain⟨a1,a2⟩:=ME h1;obtain⟨b1,b2⟩:=ME h2;obtain⟨c1,c2⟩:=Z0 h3;refine⟨?_,uK k,uK sh,a2,b2,c2⟩;rw[a1,b1,c1];simp[Fr.body,q0e]
     ·cases h
 ·cases h
theorem ZF {f:Fr} (h:f.Ok):parse f.body=some f:=by
 have e:f.body=b8 f.kind::b8 f.qg::(vz f.id++(vz f.n++(ve f.load++[]))):=by simp[Fr.body]
 rw[e];unfold parse;simp only[EM h.id,EM h.n,EO h.load,aD,if_true];rw[AZ h.kind,AZ h.qg]
theorem Uc {f:Fr} (h:f.Ok):jM f.bytes=some f:=by
 have hl:f.bytes.length=f.body.length+4:=by simp[Fr.bytes,le4]
 have e1:f.bytes.length-4=f.body.length:=by omega
 unfold jM;rw[if_neg (by omega),e1];have e2:f.bytes.take f.body.length=f.body:=by simp[Fr.bytes]
 have e3:f.bytes.drop f.body.length=le4 (chk f.body):=by simp[Fr.bytes]
 rw[e2,e3,if_pos rfl,ZF h]
theorem q30 {f:Fr} (h:jM s=some f):s=f.bytes/\f.Ok:=by
 unfold jM at h;split at h
 ·cases h
 ·split at h
  ·rename_i hd;obtain⟨h1,h2⟩:=q3q h;refine⟨?_,h2⟩;unfold Fr.bytes;rw[<-h1,<-hd,bG]
  ·cases h
end
section
open Go.RowKit Go.Maps
theorem qpt:4294967295&&&poly=poly:=by decide
theorem qq6 (y:Nat) (hy:y<2^32):bits .xor .u32 ((y:Int)/2) (bits .and .u32 (-bits .and .u32 (y:Int) 1%4294967296) 2197175160)=((vN y:Nat):Int):=by
 have e1:bits .and .u32 (y:Int) 1=((y%2:Nat):Int):=by
  have:=u32_and_nat y 1 (by omega) (by decide);rw[show((1:Nat):Int)=1 from rfl,nat_mask1]at this;exact this
 rw[e1];have e2:((y:Int)/2)=((y/2:Nat):Int):=by omega
 rw[e2];unfold vN;by_cases h:y%2=1
 ·rw[h,if_pos rfl];have e3:(-((1:Nat):Int)%4294967296)=((4294967295:Nat):Int):=by decide
  rw[e3];have e4:=u32_and_nat 4294967295 poly (by decide) (by decide);rw[qpt]at e4;rw[show(2197175160:Int)=((poly:Nat):Int)from rfl,e4];exact u32_xor_nat _ _ (by omega) (by decide)
 ·have h0:y%2=0:=by omega
  rw[h0,if_neg (by decide)];have e3:(-((0:Nat):Int)%4294967296)=((0:Nat):Int):=by decide
  rw[e3];have e4:=u32_and_nat 0 poly (by decide) (by decide);rw[Nat.zero_and]at e4;rw[show(2197175160:Int)=((poly:Nat):Int)from rfl,e4];have e5:=u32_xor_nat (y/2) 0 (by omega) (by decide);rw[Nat.xor_zero]at e5;exact e5
theorem jai (n:Nat) (h:n<2^32):4294967295^^^n=4294967295-n:=by
 apply Nat.eq_of_testBit_eq;intro i;rw[Nat.testBit_xor,show(4294967295:Nat)=2^32-1 from rfl,Nat.testBit_two_pow_sub_one,show 2^32-1-n=2^32-(n+1) by omega,Nat.testBit_two_pow_sub_succ h];by_cases hi:i<32
 ·simp[hi]
 ·have:n.testBit i=false:=Nat.testBit_lt_two_pow (xll h (bd (by decide) (by omega)));simp[hi,this]
theorem Uj (n:Nat) (h:n<9223372036854775808):IntKind.i64.wrap (n:Int)=(n:Int):=by rw[IntKind.wrap_i64];omega
theorem jbn (a b:Nat) (ha:a<2^63) (hb:b<2^63):bits .xor .i64 (a:Int) (b:Int)=((a^^^b:Nat):Int):=by
 show IntKind.i64.wrap ((bC 64 (a:Int)^^^bC 64 (b:Int)).toNat:Int)=_;rw[BitVec.toNat_xor,cf a (by omega),cf b (by omega)];exact Uj _ (av ha hb)
theorem qt8 (a b:Nat) (ha:a<2^63) (hb:b<2^63):bits .or .i64 (a:Int) (b:Int)=((a|||b:Nat):Int):=by
 show IntKind.i64.wrap ((bC 64 (a:Int)|||bC 64 (b:Int)).toNat:Int)=_;rw[BitVec.toNat_or,cf a (by omega),cf b (by omega)];exact Uj _ (Nat.or_lt_two_pow ha hb)
section
variable {w:ac}
theorem Rn (s:ByteArray) (hs:s.size<=4611686018427387904):aK prog 117 #[.string s] w λe w'=>e=.returned (.int .u32 (chk s.data.toList:Nat))/\w'=w:=by
 go_enter func117,ntmps117;go_wp2;go_loop [3,4,7] (λx y i=>∃k:Nat,k<=s.size/\i=.int .i64 k/\x=.int .u32 (si (s.data.toList.take k):Nat)) (λ_ _ i=>s.size-(intOf i).toNat);case atStart=>exact⟨0,xzl _,rfl,rfl⟩
 case round=>
  obtain⟨k,hk,rfl,rfl⟩:=hrel;by_cases dY:k<s.size
  ·obtain⟨X,hX⟩:∃X,si (s.data.toList.take k)=X:=⟨_,rfl⟩
   have WI:X<2^32:=hX▸EN _;have hb:s[k].toNat<256:=uK _;have e0:bits .xor .u32 (X:Int) ((s[k].toNat:Int)%4294967296)=((X^^^s[k].toNat:Nat):Int):=by
    rw[show((s[k].toNat:Int)%4294967296)=((s[k].toNat:Nat):Int) by omega];exact u32_xor_nat _ _ (by omega) (by omega)
   have HS:Hid (si (s.data.toList.take (k+1))=wY 8 (X^^^s[k].toNat)):=Hd (by
    rw[List.take_succ_eq_append_getElem (by simpa using dY),qo4,hX];rfl)
   have HY:=Hd (av (n:=32) WI (show s[k].toNat<2^32 by omega));rw[hX];have HX:=Hd hX;clear hX WI hb;go_wp2;generalize (X^^^s[k].toNat)=Y at*;go_loop [3,16,18,19,20,21,22,23,24,25,17] (λx j _ _ _ _ _ _ _ _ _=>∃m:Nat,m<=8/\j=.int .i64 m/\x=.int .u32 (wY m Y:Nat)) (λ_ j _ _ _ _ _ _ _ _ _=>8-(intOf j).toNat);case atStart=>exact⟨0,xzl _,rfl,rfl⟩
   case round=>
    obtain⟨m,hm,rfl,rfl⟩:=hrel;by_cases hm8:m<8
    ·go_wp2;go_round;case rel=>
      refine⟨m+1,by omega,by go_num,?_⟩;rw[qq6 _ (Gj HY.o m)];rfl
     case measure=>simp[intOf];omega
    ·obtain rfl:m=8:=by omega
     go_wp2;go_round;case rel=>exact⟨k+1,by omega,by go_num,by rw[HS.o]⟩
     case measure=>simp[intOf];omega
  ·obtain rfl:k=s.size:=by omega
   go_wp2;go_ret;refine⟨?_,rfl⟩;have hl:s.data.toList.take s.size=s.data.toList:=aI (by simp);have h1:bits .xor .u32 IntKind.u32.max (si s.data.toList:Nat)=((chk s.data.toList:Nat):Int):=by
    have:=u32_xor_nat 4294967295 (si s.data.toList) (by decide) (EN _);rw[jai _ (EN _)]at this;exact this
   rw[hl,h1];rfl
end
theorem y5:∀(k n:Nat),n<128^(k+1)->(vz n).length<=k+1
 |0,n,h=>by rw[vo (by omega)];simp
 |k+1,n,h=>by
  by_cases hs:n<128
  ·rw[vo hs];simp
  ·rw[yR hs,aV];have:=y5 k (n/128) (Nat.div_lt_of_lt_mul (by rw[aH]at h;omega));omega
theorem jju:∀x,x<256->x|||128=128+x%128:=by decide
theorem q3i (m:Nat):bits .or .u8 ((m:Int)%256) 128=(((b8 (128+m%128)).toNat:Nat):Int):=by
 have e:((m:Int)%256)=((m%256:Nat):Int):=by omega
 rw[e];have:=u8_or_nat (m%256) 128 (by omega) (by decide);rw[show((128:Nat):Int)=128 from rfl]at this;rw[this,jju _ (by omega),AZ (by omega)];omega
def bv (b:UInt8):aa:=.int .u8 (b.toNat:Int)
theorem q0r:∃i,prog.info? 5=some i/\i.zero=some (.int .u8 0)/\i.size=1/\i.bytes=1:=by
 have h:(prog.info? 5).map (λi=>(i.zero,i.size,i.bytes))=some (some (.int .u8 0),1,1):=by kernel_rfl
 obtain⟨i,h1,h2⟩:=Option.map_eq_some_iff.1 h;injection h2 with h2 h3;injection h3 with h3 h4;exact⟨i,h1,h2,h3,h4⟩
theorem Y8 {base:Nat} {v:aa} (h:w.ownsRow base 5 1 v l.length (l.map bv)):(convert 139 9 v).run prog w=.ok (.string ⟨l.toArray⟩) w:=by
 rcases h.2 with⟨rfl,hz⟩|⟨g,cap,cur,rfl,_⟩
 ·have:l=[]:=List.length_eq_zero_iff.1 hz;subst this;show Sem.run prog (convert 139 9 (.slice none 0 0)) w=.ok (.string ⟨#[]⟩) w;kernel_rfl
 ·exact aQ (P:=prog) _ 139 9 5 ⟨g,0,none⟩ cap l underlying139 underlying5 underlying9 (λj hj=>by
   have:=h.cells rfl j (bv l[j]) (by simp[hj])
   rwa [aM]at this⊢)
structure Ay (N:Nat) (w:ac) (l:List UInt8) (m:Nat) (v:aa) (wr:ac):Prop where
 le:m<=N
 eq:vz N=l++vz m
 own:wr.ownsRow w.heap.size 5 1 v l.length (l.map bv)
 below:aE w.heap.size w wr
theorem Ay.len {wr:ac} {v:aa} (h:Ay N w l m v wr) (hN:N<9223372036854775808):l.length<=9:=by
 have:=y5 8 N (by simpa using hN);rw[h.eq,aA]at this;have:0<(vz m).length:=by
  by_cases hs:m<128
  ·rw[vo hs];simp
  ·rw[yR hs];simp
 omega
theorem VU (w:ac) (a:aa) (ty:aw):∀(j:Nat) (u:aa),[a][j]?=some u->(w.alloc (.cells #[a] ty)).cell? ((⟨w.heap.size,0,none⟩:Addr).add j)=some u:=λj u hj=>by
 rw[aM,aR];match j,hj with
 |0,hj=>simp at hj;subst hj;go_simp
theorem CQ {base size:Nat} {ty:aw} {v:aa} (h:w.ownsRow base ty size v n xs):∃sa cp,v=.slice sa n cp:=by
 rcases h.2 with⟨rfl,hz⟩|⟨g,cap,cur,rfl,_⟩
 ·exact⟨none,0,by rw[hz]⟩
 ·exact⟨_,_,rfl⟩
theorem Ay.last {wr:ac} {v v2:aa} {o:Obj} (h:Ay N w l m v wr) (hm:m<128) (hr:w2.ownsRow w.heap.size 5 1 v2 (l.length+1) (l.map bv++[.int .u8 (m:Int)])) (hg:(wr.alloc o).grownBy w2 v.ownBlock):
  (convert 139 9 v2).run prog w2=.ok (.string ⟨(vz N).toArray⟩) w2/\aE w.heap.size w w2:=by
 refine⟨?_,(h.below.alloc h.below.size o).grown hg (by have:=h.below.size;simp;omega) λb hb=>(h.own.lt b hb).1⟩;have e:vz N=l++[b8 m]:=by rw[h.eq,vo hm]
 have eb:bv (b8 m)=.int .u8 (m:Int):=by
  unfold bv;rw[AZ (by omega)]
 rw[e];refine Y8 (base:=w.heap.size) ?_;rw[aA,List.map_append,cL,cU,eb];exact hr
theorem Ay.more {wr:ac} {v v2:aa} {o:Obj} (h:Ay N w l m v wr) (hm:¬m<128) (hr:w2.ownsRow w.heap.size 5 1 v2 (l.length+1) (l.map bv++[.int .u8 (((b8 (128+m%128)).toNat:Nat):Int)])) (hg:(wr.alloc o).grownBy w2 v.ownBlock):
  Ay N w (l++[b8 (128+m%128)]) (m/128) v2 w2:=by
 refine⟨xlt (Nat.div_le_self _ _) h.le,?_,?_,(h.below.alloc h.below.size o).grown hg (by have:=h.below.size;simp;omega) λb hb=>(h.own.lt b hb).1⟩
 ·rw[h.eq,yR hm];simp
 ·rw[aA,List.map_append];exact hr
section
variable {w:ac}
theorem AJ (N:Nat) (hN:N<9223372036854775808):aK prog 113 #[.int .i64 N] w λe w'=>e=.returned (.string ⟨(vz N).toArray⟩)/\aE w.heap.size w w':=by
 obtain⟨pi,l1,l2,l3,l4⟩:=q0r;have HI:=Hd (bO l1 (bO l2 (bO l3 l4)));have HN:=Hd hN;clear l1 l2 l3 l4;go_enter func113,ntmps113;go_wp2;go_loopw [0,3,4,5,6,7,8,9,10,11,12,13] (λi v _ _ _ _ _ _ _ _ _ _ wr=>∃(l:List UInt8) (m:Nat) (sa:Option Addr) (cp:Nat),i=.int .i64 m/\v=.slice sa l.length cp/\Hid (Ay N w l m (.slice sa l.length cp) wr)) (λi _ _ _ _ _ _ _ _ _ _ _ _=>(intOf i).toNat);case atStart=>exact⟨[],N,none,0,rfl,rfl,Hd ⟨ji _,rfl,World.ownsRow_nil _ _ _ _,zk _ _⟩⟩
 case round=>
  obtain⟨l,m,sa,cp,rfl,rfl,HM⟩:=hrel;have hlen:=HM.len HN.o;have G7:m<=9223372036854775807:=by have:=HM.le;have:=HN.o;omega
  by_cases dY:127<m
  ·have eA:=q3i m;have eU:=HM.below.size;go_wp2_with (at_builtin;(refine bY _ rfl (.tmp 8) (.tmp 12) 139 rfl w.heap.size 5 pi _ 1 1 underlying139 HI.1 HI.2.1 HI.2.2.1 HI.2.2.2 rfl (by decide) (.slice sa l.length cp) l.length (l.map bv) rfl (HM.own.alloc _) ⟨wr.heap.size,0,none⟩ 1 1 [.int .u8 (((b8 (128+m%128)).toNat:Nat):Int)] rfl rfl (VU wr _ _) (by intro u hu;simp at hu;subst hu;rfl) (by unfold bi;omega) (by omega) (by simp;omega) ?_;intro v2 w2 fq iH _;obtain⟨BS,Dz,oh⟩:=CQ fq;have H2:=Hd (HM.more (by omega) fq iH);rw[oh]at H2;rw[oh];clear fq iH oh))
   go_roundw;case rel=>exact⟨l++[b8 (128+m%128)],m/128,BS,Dz,by simp,by simp,by simpa using H2⟩
   case measure=>simp[intOf];omega
  ·have eU:=HM.below.size;go_wp2_with (at_builtin;(refine bY _ rfl (.tmp 14) (.tmp 17) 139 rfl w.heap.size 5 pi _ 1 1 underlying139 HI.1 HI.2.1 HI.2.2.1 HI.2.2.2 rfl (by decide) (.slice sa l.length cp) l.length (l.map bv) rfl (HM.own.alloc _) ⟨wr.heap.size,0,none⟩ 1 1 [.int .u8 (m:Int)] rfl rfl (VU wr _ _) (by intro u hu;simp at hu;subst hu;rfl) (by unfold bi;omega) (by omega) (by simp;omega) ?_;intro v2 w2 fq iH _;obtain⟨BS,Dz,oh⟩:=CQ fq;obtain⟨jhx,fJ⟩:=HM.last (by omega) fq iH;have iE:=Hd fJ;rw[oh]at jhx;rw[oh];clear fq iH oh fJ))
   go_ret;exact⟨rfl,iE.o⟩
theorem Ux (s:ByteArray) (hs:s.size<=140737488355328):aK prog 114 #[.string s] w λe w'=>e=.returned (.string ⟨(ve s.data.toList).toArray⟩)/\aE w.heap.size w w':=by
 have hl:(⟨(ve s.data.toList).toArray⟩:ByteArray)=(⟨(vz s.size).toArray⟩:ByteArray)++s:=by
  apply ByteArray.ext;rw[bH];unfold ve;apply di;simp
 have hn:(⟨(vz s.size).toArray⟩:ByteArray).size<=9:=by
  have:=y5 8 s.size (by omega);show(vz s.size).toArray.size<=9;simpa using this
 rw[hl];have HC:=AJ (w:=w) s.size (by omega);have HC:=Hd HC;clear hl;generalize (⟨(vz s.size).toArray⟩:ByteArray)=nb at*;go_enter func114,ntmps114;go_wp2_with (go_at_call 113;refine HC.mono ?_;rintro e w1 ⟨rfl,gK⟩;have DI:=Hd gK;clear gK)
 go_ret;exact⟨rfl,DI.o⟩
end
end
namespace Ph
open Go.Conc Go.ConcN Go.RowKit Go.Maps Go.Conc.Lib Go Sim
section
variable {P:cA} {ops:Array Oper} {n:Nat} {x0:Nat->aa} {w0:ac} {KN:Nat->aa->ac->Prop}
def Gx (ops:Array Oper) (n:Nat):Bool:=
 (ag ops.size).all λj=>match ops[j]? with
  |some o=>o.guard.isNone&&(match o.dst with|some d=>decide (d<n)|none=>false)&&(o.after.all λe=>decide (e.on<j))&&((ag ops.size).all λi=>i==j||(match ops[i]? with|some p=>!(p.dst==o.dst)|none=>true))
  |none=>false
structure RV (ops:Array Oper) (n:Nat) (x0:Nat->aa) (w0:ac) (KN:Nat->aa->ac->Prop) (listed:Array Bool) (a:Act) (w:ac):Prop where
 size:listed.size=ops.size
 lay:∃x,a=⟨lay n x,[]⟩/\(∀s,(∀(j:Nat) o,ops[j]?=some o->o.dst≠some s)->x s=x0 s)/\∀(j:Nat) o d,listed.getD j false=true->ops[j]?=some o->o.dst=some d->KN j (x d) w
 below:aE w0.heap.size w0 w
theorem Q7 (h:Gx ops n=true) (ho:ops[j]?=some o):o.guard=none/\(∃d,o.dst=some d/\d<n)/\(∀e∈o.after,e.on<j)/\∀i p,ops[i]?=some p->i≠j->p.dst≠o.dst:=by
 unfold Gx at h;rw[aj]at h;have hj:j<ops.size:=(yx ho).1;have:=h j (aq.2 hj);rw[ho]at this;simp only[ae,bj]at this;obtain⟨⟨⟨h1,h2⟩,h3⟩,h4⟩:=this;refine⟨h1,?_,λe he=>?_,λi p hp eB hd=>?_⟩
 ·cases hd:o.dst with
  |none=>rw[hd]at h2;cases h2
  |some d=>rw[hd]at h2;exact⟨d,rfl,of_decide_eq_true h2⟩
 ·exact of_decide_eq_true ((aG.1 h3) e he)
 ·rw[aj]at h4;have hi:=(yx hp).1;have:=h4 i (aq.2 hi);rw[hp]at this;simp[eB,hd]at this
def left (m:Nat) (listed:Array Bool):Nat:=(ag m).countP λj=>!listed.getD j true
theorem Ga {listed:Array Bool} (hi:i<m) (hs:listed.size=m) (h:listed.getD i true=false):left m (listed.setIfInBounds i true)+1=left m listed:=by
 refine M8 _ _ i (λj hj=>?_) (by simpa using h) ?_ _ List.nodup_range (aq.2 hi)
 ·rw[au true (bo hj)]
 ·have:i<listed.size:=by omega
  simp[this]
theorem Jh {listed:Array Bool} (hj:j<m) (h:listed.getD j true=false):0<left m listed:=
 List.countP_pos_iff.2 ⟨j,aq.2 hj,by simp[h]⟩
theorem CO (h:Gx ops n=true) {listed:Array Bool} (hs:listed.size=ops.size) (hr:ah .any ops listed=[]):∀j,j<ops.size->listed.getD j false=true:=by
 intro j;induction j using Nat.strongRecOn with
 |_ j ih=>
  intro hj;cases hv:listed.getD j false with
  |true=>rfl
  |false=>
   exfalso;obtain⟨o,ho⟩:∃o,ops[j]?=some o:=⟨_,az hj⟩
   have dY:j<listed.size:=by omega
   have:j∈ah .any ops listed:=aP.2 ⟨by simp[dY]at hv⊢;exact hv,o,ho,λe he _=>by
    have:=(Q7 h ho).2.2.1 e he
    exact ih e.on this (by omega)⟩
   rw[hr]at this;cases this
theorem qj8 {id:Nat} (hm:P.follows .mixedOrders=true) (hn:Gx ops n=true) (ha:∃x,a=⟨lay n x,[]⟩/\∀s,x s=x0 s) (hw:w0=w.drew)
  (hk:∀j v w w',aE w.heap.size w w'->KN j v w->KN j v w')
  (step:∀(j:Nat) o d x w,ops[j]?=some o->o.dst=some d->(∀s,(∀(j:Nat) o,ops[j]?=some o->o.dst≠some s)->x s=x0 s)->(∀(i:Nat) p e,ops[i]?=some p->p.dst=some e->(∃ed∈o.after,ed.on=i/\ay .any ed=true)->KN i (x e) w)->aE w0.heap.size w0 w->
   o.wp P ⟨lay n x,[]⟩ w (λa' w'=>∃v,a'=⟨lay n (upd x d v),[]⟩/\KN j v w'/\aE w.heap.size w w') Q)
  (done:∀x w,(∀s,(∀(j:Nat) o,ops[j]?=some o->o.dst≠some s)->x s=x0 s)->(∀(j:Nat) o d,ops[j]?=some o->o.dst=some d->KN j (x d) w)->aE w0.heap.size w0 w->Q .normal ⟨lay n x,[]⟩ w):
  (Code.region id ops true).wp P Q a w:=by
 refine wp_region_any hm ?_;have main:∀fuel listed a w,left ops.size listed<=fuel->RV ops n x0 w0 KN listed a w->wpAny P .any ops Q fuel listed a w:=by
  intro fuel;have fin:∀listed a w,RV ops n x0 w0 KN listed a w->ah .any ops listed=[]->Q .normal a w:=by
   rintro listed a w ⟨h1,⟨x,rfl,h2,h3⟩,h4⟩ hr;exact done x w h2 (λj o d ho hd=>h3 j o d (CO hn h1 hr j (yx ho).1) ho hd) h4
  induction fuel with
  |zero=>
   intro listed a w hl hv;have hr:ah .any ops listed=[]:=by
    cases hq:ah .any ops listed with
    |nil=>rfl
    |cons j r=>
     exfalso;have hj:j∈ah .any ops listed:=by rw[hq];exact .head _
     obtain⟨h1,o,ho,_⟩:=aP.1 hj;have:=Jh (yx ho).1 h1;omega
   exact⟨hr,fin listed a w hv hr⟩
  |succ fuel ih=>
   intro listed a w hl hv;refine⟨fin listed a w hv,λj hj=>?_⟩;obtain⟨h1,o,ho,h3⟩:=aP.1 hj;obtain⟨hg,⟨d,hd,rA⟩,qo,oJ⟩:=Q7 hn ho;obtain⟨eU,⟨x,rfl,hx,mY⟩,hb⟩:=hv;unfold wpOp;rw[ho];simp only[ao,hg,if_true];refine .inl (Oper.wp_mono ?_ (step j o d x w ho hd hx (λi p e hp he ⟨ed,Dt,h5,h6⟩=>mY i p e (by rw[<-h5];exact h3 ed Dt h6) hp he) hb));rintro a' w' ⟨v,rfl,hv,fQ⟩;have vV:j<ops.size:=(yx ho).1;refine ih _ _ _ (by have:=Ga vV eU h1;omega) ⟨by simpa using eU,⟨_,rfl,λs hs=>?_,λi p e hi hp he=>?_⟩,hb.trans (fQ.mono hb.size)⟩
   ·unfold upd;rw[if_neg λe=>hs j o ho (by rw[hd,e])];exact hx s hs
   ·by_cases e1:i=j
    ·subst e1;rw[ho]at hp;cases hp;rw[hd]at he;cases he;unfold upd;rw[if_pos rfl];exact hv
    ·have eB:e≠d:=λe2=>oJ i p hp e1 (by rw[he,hd,e2]);unfold upd;rw[if_neg eB];rw[au false (bo e1)]at hi;exact hk i _ w w' fQ (mY i p e hi hp he)
 obtain⟨x,rfl,hx⟩:=ha;subst hw;refine main _ _ _ _ (xlt (List.countP_le_length) (by simp)) ⟨by simp,⟨x,rfl,λs _=>hx s,λj o d hj ho hd=>?_⟩,zk _ _⟩;have:j<ops.size:=(yx ho).1;simp[this]at hj
theorem qf {v:aa} {next:Act->ac->Prop} (h:(ax a.eval o).run P w=.ok (.value v) w') (k:next (a.put o.dst v) w'):o.wp P a w next Q:=by
 unfold Oper.wp;rw[h];exact k
end
def waits (ops:Array Oper) (m:Nat):List Bool->Nat->List Bool
 |S,0=>S
 |S,j+1=>waits ops m (if S.getD j false then(match ops[j]? with
  |some o=>S.mapIdx λi b=>b||o.after.toList.any λe=>e.on==i&&ay .any e
  |none=>S)else S) j
def Cr (ops:Array Oper) (n:Nat):Bool:=
 (decide (0<ops.size))&&((ag ops.size).all λj=>match ops[j]? with
  |some o=>o.guard.isNone&&(match o.dst with|some d=>decide (d<n)&&decide (j+1<ops.size)|none=>decide (j+1=ops.size))&&(o.after.all λe=>decide (e.on<j))&&((ag ops.size).all λi=>i==j||(match ops[i]? with|some p=>!(p.dst==o.dst)|none=>true))
  |none=>false)&&((waits ops (ops.size-1) ((ag ops.size).map λi=>i+1==ops.size) ops.size).all id)
section
variable {P:cA} {ops:Array Oper} {n:Nat} {x0:Nat->aa} {KN:Nat->aa->ac->Prop} {turn:Nat} {J:Bool->ac->Prop}
def yI (ops:Array Oper) (listed:Array Bool):Prop:= ∀(j:Nat) o,ops[j]?=some o->listed.getD j false=true->∀e∈o.after,ay .any e=true->listed.getD e.on false=true
theorem FZ (ops:Array Oper) (m:Nat) {listed:Array Bool} (hs:yI ops listed):∀(k:Nat) (S:List Bool),(∀i,S.getD i false=true->listed.getD i false=true)->∀i,(waits ops m S k).getD i false=true->listed.getD i false=true
 |0,S,h=>h
 |k+1,S,h=>by
  unfold waits;refine FZ ops m hs k _ ?_;intro i hi;split at hi
  ·rename_i hk;have nM:=h k hk;split at hi
   ·rename_i o ho;rw[am,List.getElem?_mapIdx]at hi;cases hb:S[i]? with
    |none=>rw[hb]at hi;cases hi
    |some b=>
     rw[hb]at hi;simp only[aJ,aW,bE,bw]at hi;rcases hi with hi|⟨e,he,h2⟩
     ·exact h i (by rw[am,hb];exact hi)
     ·simp only[ae,beq_iff_eq]at h2;rw[<-h2.1];exact hs k o ho nM e (by simpa using he) h2.2
   ·exact h i hi
  ·exact h i hi
theorem Sl (h:Cr ops n=true) (ho:ops[j]?=some o):o.guard=none/\(∀e∈o.after,e.on<j)/\(∀i p,ops[i]?=some p->i≠j->p.dst≠o.dst)/\((∃d,o.dst=some d/\d<n/\j+1<ops.size)\/(o.dst=none/\j+1=ops.size)):=by
 unfold Cr at h;simp only[ae]at h;have h:=h.1.2;rw[aj]at h;have hj:j<ops.size:=(yx ho).1;have:=h j (aq.2 hj);rw[ho]at this;simp only[ae,bj]at this;obtain⟨⟨⟨h1,h2⟩,h3⟩,h4⟩:=this;refine⟨h1,λe he=>of_decide_eq_true ((aG.1 h3) e he),λi p hp eB hd=>?_,?_⟩
 ·rw[aj]at h4;have hi:=(yx hp).1;have:=h4 i (aq.2 hi);rw[hp]at this;simp[eB,hd]at this
 ·cases hd:o.dst with
  |none=>rw[hd]at h2;exact .inr ⟨rfl,of_decide_eq_true h2⟩
  |some d=>rw[hd]at h2;simp only[ae]at h2;exact .inl ⟨d,rfl,of_decide_eq_true h2.1,of_decide_eq_true h2.2⟩
structure RS (ops:Array Oper) (n:Nat) (x0:Nat->aa) (turn:Nat) (J:Bool->ac->Prop) (KN:Nat->aa->ac->Prop) (Q:Exit->Act->ac->Prop) (listed:Array Bool) (a:Act) (w:ac):Prop where
 size:listed.size=ops.size
 shut:yI ops listed
 go:(listed.getD (ops.size-1) true=false/\J (listed.getD turn false) w/\∃x,a=⟨lay n x,[]⟩/\(∀s,(∀(j:Nat) o,ops[j]?=some o->o.dst≠some s)->x s=x0 s)/\∀(j:Nat) o d,listed.getD j false=true->ops[j]?=some o->o.dst=some d->KN j (x d) w)\/(listed.getD (ops.size-1) false=true/\Q .normal a w)
theorem Ur {id:Nat} (hm:P.follows .mixedOrders=true) (hn:Cr ops n=true) (ha:∃x,a=⟨lay n x,[]⟩/\∀s,x s=x0 s) (hw:J false w.drew)
  (step:∀(j:Nat) o d x w (b:Bool),(j=turn->b=false)->ops[j]?=some o->o.dst=some d->(∀s,(∀(j:Nat) o,ops[j]?=some o->o.dst≠some s)->x s=x0 s)->(∀(i:Nat) p e,ops[i]?=some p->p.dst=some e->(∃ed∈o.after,ed.on=i/\ay .any ed=true)->KN i (x e) w)->J b w->
   o.wp P ⟨lay n x,[]⟩ w (λa' w'=>∃v,a'=⟨lay n (upd x d v),[]⟩/\KN j v w'/\J (b||j==turn) w'/\∀i u,i≠j->KN i u w->KN i u w') Q)
  (last:∀(m:Nat) o x w,m+1=ops.size->ops[m]?=some o->(∀s,(∀(j:Nat) o,ops[j]?=some o->o.dst≠some s)->x s=x0 s)->(∀(j:Nat) o d,ops[j]?=some o->o.dst=some d->KN j (x d) w)->J (decide (turn+1<ops.size)) w->o.wp P ⟨lay n x,[]⟩ w (λa' w'=>Q .normal a' w') Q):
  (Code.region id ops true).wp P Q a w:=by
 refine wp_region_any hm ?_;have kG:0<ops.size:=by
  unfold Cr at hn;simp only[ae,decide_eq_true_eq]at hn;exact hn.1.1
 have Kn:((waits ops (ops.size-1) ((ag ops.size).map λi=>i+1==ops.size) ops.size).all (λb=>b))=true:=by
  unfold Cr at hn;simp only[ae]at hn;exact hn.2
 have ES:∀(k:Nat) (S:List Bool),(waits ops (ops.size-1) S k).length=S.length:=by
  intro k;induction k with
  |zero=>intro S;rfl
  |succ k ih=>
   intro S;unfold waits;rw[ih];split
   ·split
    ·simp
    ·rfl
   ·rfl
 -- if none is ready,all are done
 have CO:∀{listed:Array Bool},listed.size=ops.size->ah .any ops listed=[]->∀j,j<ops.size->listed.getD j false=true:=by
  intro listed hs mq j;induction j using Nat.strongRecOn with
  |_ j ih=>
   intro hj;cases hv:listed.getD j false with
   |true=>rfl
   |false=>
    exfalso;obtain⟨o,ho⟩:∃o,ops[j]?=some o:=⟨_,az hj⟩
    have dY:j<listed.size:=by omega
    have:j∈ah .any ops listed:=aP.2 ⟨by simp[dY]at hv⊢;exact hv,o,ho,λe he _=>by
     have:=(Sl hn ho).2.1 e he
     exact ih e.on this (by omega)⟩
    rw[mq]at this;cases this
 have main:∀fuel listed a w,left ops.size listed<=fuel->RS ops n x0 turn J KN Q listed a w->wpAny P .any ops Q fuel listed a w:=by
  intro fuel;have fin:∀listed a w,RS ops n x0 turn J KN Q listed a w->ah .any ops listed=[]->Q .normal a w:=by
   rintro listed a w ⟨h1,h2,h3⟩ mq;rcases h3 with⟨h3,_⟩|⟨_,h3⟩
   ·have:=CO h1 mq (ops.size-1) (by omega);have dY:ops.size-1<listed.size:=by omega
    simp[dY]at this h3;rw[this]at h3;cases h3
   ·exact h3
  induction fuel with
  |zero=>
   intro listed a w hl hv;have mq:ah .any ops listed=[]:=by
    cases hq:ah .any ops listed with
    |nil=>rfl
    |cons j r=>
     exfalso;have hj:j∈ah .any ops listed:=by rw[hq];exact .head _
     obtain⟨h1,o,ho,_⟩:=aP.1 hj;have:=Jh (yx ho).1 h1;omega
   exact⟨mq,fin listed a w hv mq⟩
  |succ fuel ih=>
   intro listed a w hl hv;refine⟨fin listed a w hv,λj hj=>?_⟩;obtain⟨h1,o,ho,h3⟩:=aP.1 hj;obtain⟨hg,qo,oJ,IA⟩:=Sl hn ho;obtain⟨eU,iM,hgo⟩:=hv;have vV:j<ops.size:=(yx ho).1
   -- the list is shut behind it,too
   have oH:yI ops (listed.setIfInBounds j true):=by
    intro i p hp hi e he sH;by_cases e1:i=j
    ·subst e1;rw[ho]at hp;cases hp;have dY:=qo e he;rw[au false (by omega)];exact h3 e he sH
    ·rw[au false (bo e1)]at hi;have h4:=iM i p hp hi e he sH;by_cases e2:e.on=j
     ·rw[e2];have:j<listed.size:=by omega
      simp[this]
     ·rw[au false (bo e2)];exact h4
   -- were the last one done,all would be
   have Im:listed.getD (ops.size-1) false≠true:=λhT=>by
    have fH:=FZ ops (ops.size-1) iM ops.size ((ag ops.size).map λi=>i+1==ops.size) (λi hi=>by
     rw[am,bp]at hi;by_cases qG:i<ops.size
     ·rw[List.getElem?_range qG]at hi;simp only[aJ,aW,beq_iff_eq]at hi;rw[show i=ops.size-1 by omega];exact hT
     ·rw[aU (by simp;omega)]at hi;cases hi) j (by
     rw[aj]at Kn;have hlen:j<(waits ops (ops.size-1) ((ag ops.size).map λi=>i+1==ops.size) ops.size).length:=by rw[ES];simp;exact vV
     rw[am,bq hlen]
     exact Kn _ (cg hlen))
    have dY:j<listed.size:=by omega
    simp[dY]at fH h1;rw[fH]at h1;cases h1
   obtain⟨zN,hR,x,rfl,hx,mY⟩:_:=hgo.resolve_right λh=>Im h.1;unfold wpOp;rw[ho];simp only[ao,hg,if_true];rcases IA with⟨d,hd,rA,Wv⟩|⟨hd,Wv⟩
   ·refine .inl (Oper.wp_mono ?_ (step j o d x w (listed.getD turn false) (λe=>?_) ho hd hx (λi p e hp he ⟨ed,Dt,h5,h6⟩=>mY i p e (by rw[<-h5];exact h3 ed Dt h6) hp he) hR));rotate_left
    ·rw[<-e];have dY:j<listed.size:=by omega
     simp[dY]at h1⊢;exact h1
    rintro a' w' ⟨v,rfl,hv,fQ,hk⟩;have fQ:J ((listed.setIfInBounds j true).getD turn false) w':=by
     by_cases e:j=turn
     ·subst e;have dY:j<listed.size:=by omega
      simp[dY]at fQ⊢;exact fQ
     ·rw[au false e];have e2:(j==turn)=false:=by simpa using e
      rw[e2,Bool.or_false]at fQ;exact fQ
    refine ih _ _ _ (by have:=Ga vV eU h1;omega) ⟨by simpa using eU,oH,.inl ⟨by rw[au true (by omega)];exact zN,fQ,_,rfl,λs hs=>?_,λi p e hi hp he=>?_⟩⟩
    ·unfold upd;rw[if_neg λe=>hs j o ho (by rw[hd,e])];exact hx s hs
    ·by_cases e1:i=j
     ·subst e1;rw[ho]at hp;cases hp;rw[hd]at he;cases he;unfold upd;rw[if_pos rfl];exact hv
     ·have eB:e≠d:=λe2=>oJ i p hp e1 (by rw[he,hd,e2]);unfold upd;rw[if_neg eB];rw[au false (bo e1)]at hi;exact hk i _ e1 (mY i p e hi hp he)
   ·have fH:∀i,i<ops.size-1->listed.getD i false=true:=by
     intro i hi;have fH:=FZ ops (ops.size-1) oH ops.size ((ag ops.size).map λi=>i+1==ops.size) (λi hi=>by
      rw[am,bp]at hi;by_cases qG:i<ops.size
      ·rw[List.getElem?_range qG]at hi;simp only[aJ,aW,beq_iff_eq]at hi;rw[show i=j by omega];have:j<listed.size:=by omega
       simp[this]
      ·rw[aU (by simp;omega)]at hi;cases hi) i (by
      rw[aj]at Kn;have hlen:i<(waits ops (ops.size-1) ((ag ops.size).map λi=>i+1==ops.size) ops.size).length:=by rw[ES];simp;omega
      rw[am,bq hlen]
      exact Kn _ (cg hlen))
     rw[au false (by omega)]at fH;exact fH
    refine .inl (Oper.wp_mono ?_ (last j o x w Wv ho hx (λi p d hp oF=>mY i p d (fH i ?_) hp oF) (by
     have:listed.getD turn false=decide (turn+1<ops.size):=by
      by_cases e:turn+1<ops.size
      ·rw[fH turn (by omega)];simp[e]
      ·by_cases e2:turn=ops.size-1
       ·rw[e2];have dY:ops.size-1<listed.size:=by omega
        simp[dY]at zN⊢;rw[zN];simp;omega
       ·simp[e,show¬turn<listed.size by omega]
     rw[<-this];exact hR)))
    ·intro a' w' hq;refine ih _ _ _ (by have:=Ga vV eU h1;omega) ⟨by simpa using eU,oH,.inr ⟨?_,hq⟩⟩;rw[show ops.size-1=j by omega];have:j<listed.size:=by omega
     simp[this]
    ·have hi:=(yx hp).1;rcases Nat.lt_or_ge i (ops.size-1)with h|h
     ·exact h
     ·exfalso;have:i=j:=by omega
      subst this;rw[ho]at hp;cases hp;rw[hd]at oF;cases oF
 obtain⟨x,rfl,hx⟩:=ha;have h0f:J ((bF ops.size false).getD turn false) w.drew:=by
  have:(bF ops.size false).getD turn false=false:=by
   by_cases h:turn<ops.size<;>simp[h]
  rw[this];exact hw
 refine main _ _ _ _ (xlt (List.countP_le_length) (by simp)) ⟨by simp,λj o ho hj=>?_,.inl ⟨?_,h0f,x,rfl,λs _=>hx s,λj o d hj ho hd=>?_⟩⟩
 ·have:j<ops.size:=(yx ho).1;simp[this]at hj
 ·have:ops.size-1<ops.size:=by omega
  simp[this]
 ·have:j<ops.size:=(yx ho).1;simp[this]at hj
end
theorem qz {s:Nat} (h:(ops.toList.all λo=>!(o.dst==some s))=true):∀(j:Nat) o,ops[j]?=some o->o.dst≠some s:=λj o ho e=>by
 rw[aj]at h;have:=h o (by rw[<-Array.getElem?_toList]at ho;exact List.mem_of_getElem? ho);rw[e]at this;simp at this
theorem qd (h:(o.after.toList.any λe=>e.on==i&&ay .any e)=true):∃ed∈o.after,ed.on=i/\ay .any ed=true:=by
 rw[bw]at h;obtain⟨e,h1,h2⟩:=h;simp only[ae,beq_iff_eq]at h2;exact⟨e,by simpa using h1,h2.1,h2.2⟩
theorem VS (W:ac) (g:Nat) (x y:Int) (a b:UInt8) (hx:x=a.toNat) (hy:y=b.toNat) (h0:W.cell? ⟨g,0,none⟩=some (.int .u8 x)) (h1:W.cell? ⟨g,1,none⟩=some (.int .u8 y)):(convert 139 9 (.slice (some ⟨g,0,none⟩) 2 2)).run prog W=.ok (.string ⟨#[a,b]⟩) W:=
 aQ (P:=prog) _ 139 9 5 ⟨g,0,none⟩ 2 [a,b] underlying139 underlying5 underlying9 (λj hj=>by
  rw[aM,aR];have hj:j<2:=hj;match j,hj with
  |0,_=>rw[h0,hx];rfl
  |1,_=>rw[h1,hy];rfl)
theorem jhi (W:ac) (g:Nat) (x0 x1 x2 x3:Int) (a b c d:UInt8) (e0:x0=a.toNat) (e1:x1=b.toNat) (e2:x2=c.toNat) (e3:x3=d.toNat) (h0:W.cell? ⟨g,0,none⟩=some (.int .u8 x0)) (h1:W.cell? ⟨g,1,none⟩=some (.int .u8 x1)) (h2:W.cell? ⟨g,2,none⟩=some (.int .u8 x2)) (h3:W.cell? ⟨g,3,none⟩=some (.int .u8 x3)):
  (convert 139 9 (.slice (some ⟨g,0,none⟩) 4 4)).run prog W=.ok (.string ⟨#[a,b,c,d]⟩) W:=
 aQ (P:=prog) _ 139 9 5 ⟨g,0,none⟩ 4 [a,b,c,d] underlying139 underlying5 underlying9 (λj hj=>by
  rw[aM,aR];have hj:j<4:=hj;match j,hj with
  |0,_=>rw[h0,e0];rfl
  |1,_=>rw[h1,e1];rfl
  |2,_=>rw[h2,e2];rfl
  |3,_=>rw[h3,e3];rfl)
theorem Jp {args:Array aa} {R:cP->ac->Prop} {next:Act->ac->Prop} (h:(ax a.eval o).run prog w=.ok (.enter f args) w) (hc:aK prog f args w R) (k:∀e w',R e w'->∃v,e=.returned v/\next (a.put o.dst v) w'):o.wp prog a w next Q:=by
 unfold Oper.wp;rw[h];exact hc.mono λe w' hr=>by
  obtain⟨v,rfl,h⟩:=k e w' hr;exact h
theorem LP {q:aX} {s t:ByteArray} (h:o.op=.binOp .add 9 p q 9) (hp:e p=.string s) (hq:e q=.string t) (hl:s.size+t.size<=9223372036854775807):(ax e o).run prog w=.ok (.value (.string (s++t))) w:=by
 have hd:(9223372036854775807<s.size+t.size)=False:=by simp;omega
 unfold ax;simp[go_sem,h,hp,hq,hd]
theorem F7 (f:Nat) (hf:f<5) {g:Nat} (h:o.op=.fieldAddr 133 p f) (hp:e p=.pointer (some ⟨g,0,none⟩)):(ax e o).run prog w=.ok (.value (.pointer (some ⟨g,f,none⟩))) w:=by
 have hu:=underlying133;have Dr:f=0\/f=1\/f=2\/f=3\/f=4:=by omega
 unfold ax;rcases Dr with rfl|rfl|rfl|rfl|rfl<;>simp[go_sem,h,hp,hu]
theorem jk {a:Addr} {ty:aw} {v:aa} (h:o.op=.load ty p) (hp:e p=.pointer (some a)) (hA:(isAgg ty).run prog w=.ok false w) (hc:w.cell? a=some v):(ax e o).run prog w=.ok (.value v) w:=by
 unfold ax;simp[go_sem,h,hp,hA,hc]
theorem Yv {m:Int} (h:o.op=.convert 3 5 p) (hp:e p=.int .i64 m):(ax e o).run prog w=.ok (.value (.int .u8 (IntKind.u8.wrap m))) w:=by
 have hu:=underlying3;have Bh:=underlying5;unfold ax;simp[go_sem,h,hp,hu,Bh]
theorem EC {a b:aw} {v v':aa} (h:o.op=.convert a b p) (hp:e p=v) (hc:(convert a b v).run prog w=.ok v' w):(ax e o).run prog w=.ok (.value v') w:=by
 unfold ax;simp[go_sem,h,hp,hc]
theorem Zy {q:aX} {x y:Int} (h:o.op=.buildSlice 139 2 #[(0,p),(1,q)]) (hp:e p=.int .u8 x) (hq:e q=.int .u8 y):(ax e o).run prog w=.ok (.value (.slice (some ⟨w.heap.size,0,none⟩) 2 2)) (w.alloc (.cells #[.int .u8 x,.int .u8 y] 5)):=by
 have hu:=underlying139;unfold ax;simp[go_sem,h,hp,hq,hu]
theorem MW {ty:aw} {v:aa} {fn:Func} (h:o.op=.call {callee:=.value (.func f),args:=#[p],argTypes:=#[ty]}) (hp:a.eval p=v) (hf:prog.funcs[f]?=some fn) (jJ:(fn.name== "runtime.NumGoroutine")=false) (hb:fn.body.isNone=false):(ax a.eval o).run prog w=.ok (.enter f #[v]) w:=by
 rw[run_call_body h hf jJ hb];simp[hp]
theorem oQ {v:aa} (h:o.op=.assign p) (hp:e p=v):(ax e o).run prog w=.ok (.value v) w:=by
 unfold ax;simp[go_sem,h,hp]
theorem VJ (w:ac) (x y:aa) (t:aw):(w.alloc (.cells #[x,y] t)).cell? ⟨w.heap.size,0,none⟩=some x:=by
 rw[show(⟨w.heap.size,0,none⟩:Addr)=Addr.mk w.heap.size 0 none from rfl];simp[World.cell?_alloc_new]
theorem VI (w:ac) (x y:aa) (t:aw):(w.alloc (.cells #[x,y] t)).cell? ⟨w.heap.size,1,none⟩=some y:=by
 simp[World.cell?_alloc_new]
theorem qc {v:aa} (hd:o.dst=some d):(bB (lay n x) []).put o.dst v=⟨lay n (upd x d v),[]⟩:=by
 rw[hd];show bB ((lay n x).setIfInBounds d v) []=_;rw[CG]
noncomputable def pb1:Array Oper:=match Tryz.f75.body with|some (.seq _ (.seq a _))=>rg a|_=>#[]
noncomputable def pbo (k:Nat):Oper:=pb1.getD k ⟨none,.alloc 0,0, "",#[],none⟩
theorem q9c:Gx pb1 41=true:=by kernel_rfl
section
variable {bx id n kd sh:Nat} {ld s0 s1 s2 s3:ByteArray}
def Kpb (bx kd sh id n:Nat) (ld s0 s1 s2 s3:ByteArray):Nat->aa->ac->Prop
 |0,v,_=>v=.pointer (some ⟨bx,0,none⟩)
 |1,v,_=>v=.int .u8 kd
 |2,v,_=>v=.pointer (some ⟨bx,1,none⟩)
 |3,v,_=>v=.int .i64 sh
 |4,v,_=>v=.int .u8 sh
 |5,v,w=>∃g,v=.slice (some ⟨g,0,none⟩) 2 2/\w.cell? ⟨g,0,none⟩=some (.int .u8 kd)/\w.cell? ⟨g,1,none⟩=some (.int .u8 sh)
 |6,v,_=>v=.string s0
 |7,v,_=>v=.pointer (some ⟨bx,2,none⟩)
 |8,v,_=>v=.int .i64 id
 |9,v,_=>v=.string s1
 |10,v,_=>v=.string (s0++s1)
 |11,v,_=>v=.pointer (some ⟨bx,3,none⟩)
 |12,v,_=>v=.int .i64 n
 |13,v,_=>v=.string s2
 |14,v,_=>v=.string (s0++s1++s2)
 |15,v,_=>v=.pointer (some ⟨bx,4,none⟩)
 |16,v,_=>v=.string ld
 |17,v,_=>v=.string s3
 |18,v,_=>v=.string (s0++s1++s2++s3)
 |19,v,_=>v=.string (s0++s1++s2++s3)
 |_,_,_=>True
theorem Zv (j:Nat) (v:aa) (w w':ac) (hb:aE w.heap.size w w') (h:Kpb bx kd sh id n ld s0 s1 s2 s3 j v w):Kpb bx kd sh id n ld s0 s1 s2 s3 j v w':=by
 match j,h with
 |5,h=>
  obtain⟨g,h1,h2,h3⟩:=h;have lt:g<w.heap.size:=xbl w _ h2;exact⟨g,h1,(hb.cell (p:=⟨g,0,none⟩) lt).trans h2,(hb.cell (p:=⟨g,1,none⟩) lt).trans h3⟩
 |0,h|1,h|2,h|3,h|4,h|6,h|7,h|8,h|9,h|10,h|11,h|12,h|13,h|14,h|15,h|16,h|17,h|18,h|19,h=>exact h
 |k+20,_=>trivial
theorem jjz (eU:a.tmps.size=41) (Ow:a.defers=[]) (h1:a.tmps.getD 1 bD=.pointer (some ⟨bx,0,none⟩)) (c0:w.cell? ⟨bx,0,none⟩=some (.int .u8 kd)) (c1:w.cell? ⟨bx,1,none⟩=some (.int .i64 sh)) (c2:w.cell? ⟨bx,2,none⟩=some (.int .i64 id)) (c3:w.cell? ⟨bx,3,none⟩=some (.int .i64 n)) (c4:w.cell? ⟨bx,4,none⟩=some (.string ld))
  (uS:kd<256) (iM:sh<256) (e0:s0=⟨#[b8 kd,b8 sh]⟩) (l1:s1.size<=9) (l2:s2.size<=9) (l3:s3.size<=1048585)
  (C1:∀W:ac,aK prog 113 #[.int .i64 id] W λe w'=>e=.returned (.string s1)/\aE W.heap.size W w') (C2:∀W:ac,aK prog 113 #[.int .i64 n] W λe w'=>e=.returned (.string s2)/\aE W.heap.size W w') (C3:∀W:ac,aK prog 114 #[.string ld] W λe w'=>e=.returned (.string s3)/\aE W.heap.size W w')
  (hQ:∀y w',(∀s,(∀(j:Nat) o,pb1[j]?=some o->o.dst≠some s)->y s=a.tmps.getD s bD)->y 3=.string (s0++s1++s2++s3)->aE w.heap.size w w'->Q .normal ⟨lay 41 y,[]⟩ w'):(Code.region 1 pb1 true).wp prog Q a w:=by
 have l0:s0.size=2:=by rw[e0];rfl
 have lt:bx<w.heap.size:=xbl w _ c0;have hst:=underlying133;refine qj8 (n:=41) (x0:=λs=>a.tmps.getD s bD) (w0:=w.drew) (KN:=Kpb bx kd sh id n ld s0 s1 s2 s3) (by kernel_rfl) q9c ⟨_,?_,λ_=>rfl⟩ rfl Zv ?_ ?_
 ·obtain⟨t,df⟩:=a;obtain rfl:df=[]:=Ow;rw[AX eU]
 ·intro j o d x w1 ho hd hx qo hb;have Hu:∀f,w1.cell? ⟨bx,f,none⟩=w.cell? ⟨bx,f,none⟩:=λf=>hb.cell (p:=⟨bx,f,none⟩) lt;have x1:x 1=.pointer (some ⟨bx,0,none⟩):=(hx 1 (qz (by kernel_rfl))).trans h1;match j,ho with
  |0,ho=>
   cases ho;cases hd;exact qf (F7 0 (by decide) rfl (jc x1)) ⟨_,qc rfl,rfl,zk _ _⟩
  |1,ho=>
   cases ho;cases hd;have k0:x 5=.pointer (some ⟨bx,0,none⟩):=qo 0 _ 5 rfl rfl (qd rfl);exact qf (jk (ty:=131) rfl (jc k0) (by simp[isAgg]) ((Hu 0).trans c0)) ⟨_,qc rfl,rfl,zk _ _⟩
  |2,ho=>
   cases ho;cases hd;exact qf (F7 1 (by decide) rfl (jc x1)) ⟨_,qc rfl,rfl,zk _ _⟩
  |3,ho=>
   cases ho;cases hd;have k2:x 7=.pointer (some ⟨bx,1,none⟩):=qo 2 _ 7 rfl rfl (qd rfl);exact qf (jk (ty:=3) rfl (jc k2) (by simp[isAgg]) ((Hu 1).trans c1)) ⟨_,qc rfl,rfl,zk _ _⟩
  |4,ho=>
   obtain rfl:=qj (a:=pbo 4) rfl ho;obtain rfl:=qj (a:=9) rfl hd;have k3:x 8=.int .i64 sh:=qo 3 _ 8 rfl rfl (qd rfl);have hw8:IntKind.u8.wrap (sh:Int)=(sh:Int):=by rw[IntKind.wrap_u8'];omega
   have hr:=Yv (o:=pbo 4) (w:=w1) rfl (tmp (n:=41) (by decide) k3);rw[hw8]at hr;exact qf hr ⟨_,qc rfl,rfl,zk _ _⟩
  |5,ho=>
   cases ho;cases hd;have k1:x 6=.int .u8 kd:=qo 1 _ 6 rfl rfl (qd rfl);have k4:x 9=.int .u8 sh:=qo 4 _ 9 rfl rfl (qd rfl);exact qf (Zy rfl (jc k1) (jc k4)) ⟨_,qc rfl,⟨w1.heap.size,rfl,VJ _ _ _ _,VI _ _ _ _⟩,(zk _ _).alloc (ji _) _⟩
  |6,ho=>
   cases ho;cases hd;obtain⟨g,k5,q0,q1⟩:Kpb bx kd sh id n ld s0 s1 s2 s3 5 (x 10) w1:=qo 5 _ 10 rfl rfl (qd rfl);have hc:=VS w1 g kd sh (b8 kd) (b8 sh) (by rw[AZ uS]) (by rw[AZ iM]) q0 q1;rw[<-e0]at hc;exact qf (EC rfl (jc k5) hc) ⟨_,qc rfl,rfl,zk _ _⟩
  |7,ho=>
   cases ho;cases hd;exact qf (F7 2 (by decide) rfl (jc x1)) ⟨_,qc rfl,rfl,zk _ _⟩
  |8,ho=>
   cases ho;cases hd;have k7:x 12=.pointer (some ⟨bx,2,none⟩):=qo 7 _ 12 rfl rfl (qd rfl);exact qf (jk (ty:=3) rfl (jc k7) (by simp[isAgg]) ((Hu 2).trans c2)) ⟨_,qc rfl,rfl,zk _ _⟩
  |9,ho=>
   obtain rfl:=qj (a:=pbo 9) rfl ho;obtain rfl:=qj (a:=14) rfl hd;have k8:x 13=.int .i64 id:=qo 8 _ 13 rfl rfl (qd rfl);have hr:=MW (o:=pbo 9) (w:=w1) rfl (tmp (n:=41) (by decide) k8) func113 (by kernel_rfl) (by kernel_rfl);refine Jp hr (C1 w1) λe w2 h=>⟨_,h.1,_,qc rfl,rfl,h.2⟩
  |10,ho=>
   cases ho;cases hd;have k6:x 11=.string s0:=qo 6 _ 11 rfl rfl (qd rfl);have k9:x 14=.string s1:=qo 9 _ 14 rfl rfl (qd rfl);exact qf (LP rfl (jc k6) (jc k9) (by omega)) ⟨_,qc rfl,rfl,zk _ _⟩
  |11,ho=>
   cases ho;cases hd;exact qf (F7 3 (by decide) rfl (jc x1)) ⟨_,qc rfl,rfl,zk _ _⟩
  |12,ho=>
   cases ho;cases hd;have nZ:x 16=.pointer (some ⟨bx,3,none⟩):=qo 11 _ 16 rfl rfl (qd rfl);exact qf (jk (ty:=3) rfl (jc nZ) (by simp[isAgg]) ((Hu 3).trans c3)) ⟨_,qc rfl,rfl,zk _ _⟩
  |13,ho=>
   obtain rfl:=qj (a:=pbo 13) rfl ho;obtain rfl:=qj (a:=18) rfl hd;have uO:x 17=.int .i64 n:=qo 12 _ 17 rfl rfl (qd rfl);have hr:=MW (o:=pbo 13) (w:=w1) rfl (tmp (n:=41) (by decide) uO) func113 (by kernel_rfl) (by kernel_rfl);refine Jp hr (C2 w1) λe w2 h=>⟨_,h.1,_,qc rfl,rfl,h.2⟩
  |14,ho=>
   cases ho;cases hd;have jE:x 15=.string (s0++s1):=qo 10 _ 15 rfl rfl (qd rfl);have vR:x 18=.string s2:=qo 13 _ 18 rfl rfl (qd rfl);exact qf (LP rfl (jc jE) (jc vR) (by simp only[bI];omega)) ⟨_,qc rfl,rfl,zk _ _⟩
  |15,ho=>
   cases ho;cases hd;exact qf (F7 4 (by decide) rfl (jc x1)) ⟨_,qc rfl,rfl,zk _ _⟩
  |16,ho=>
   cases ho;cases hd;have zA:x 20=.pointer (some ⟨bx,4,none⟩):=qo 15 _ 20 rfl rfl (qd rfl);exact qf (jk (ty:=9) rfl (jc zA) (by simp[isAgg]) ((Hu 4).trans c4)) ⟨_,qc rfl,rfl,zk _ _⟩
  |17,ho=>
   obtain rfl:=qj (a:=pbo 17) rfl ho;obtain rfl:=qj (a:=22) rfl hd;have C9:x 21=.string ld:=qo 16 _ 21 rfl rfl (qd rfl);have hr:=MW (o:=pbo 17) (w:=w1) rfl (tmp (n:=41) (by decide) C9) func114 (by kernel_rfl) (by kernel_rfl);refine Jp hr (C3 w1) λe w2 h=>⟨_,h.1,_,qc rfl,rfl,h.2⟩
  |18,ho=>
   cases ho;cases hd;have uN:x 19=.string (s0++s1++s2):=qo 14 _ 19 rfl rfl (qd rfl);have GR:x 22=.string s3:=qo 17 _ 22 rfl rfl (qd rfl);exact qf (LP rfl (jc uN) (jc GR) (by simp only[bI];omega)) ⟨_,qc rfl,rfl,zk _ _⟩
  |19,ho=>
   cases ho;cases hd;have ND:x 23=.string (s0++s1++s2++s3):=qo 18 _ 23 rfl rfl (qd rfl);exact qf (oQ rfl (jc ND)) ⟨_,qc rfl,rfl,zk _ _⟩
  |k+20,ho=>exact absurd ho (by rw[aS (show pb1.size<=k+20 by show 20<=k+20;omega)];exact λe=>by cases e)
 ·intro y w1 hy hk hb;exact hQ y w1 hy (hk 19 (pbo 19) 3 rfl rfl) (Below.trans (b:=w.drew) ⟨rfl,rfl,rfl,ji _,λ_ _=>rfl⟩ hb)
end
noncomputable def db1:Array Oper:=match Tryz.f100.body with|some (.seq _ (.seq a _))=>rg a|_=>#[]
section
variable {bx id n kd sh:Nat} {ld s0 s1 s2 s3:ByteArray}
end
section
variable {N:Blocks} {kv:List aa} {cs eT:List cq} {w w1:ac} {Z:cq->ac->Prop} {b:cq} {k:List Item}
theorem ql.opn {td:List Nat} {v:aa} (jB:blG b.fn=false) (ho:ops[i]?=some o) (fI:nk XG.P XG.P fb true (Sim.bare o)=true) (hw:ao o (aY ops (lay n x))=true) (hd:o.dst=some j)
  (hr:∀wc,Same w wc->(ax (bB (lay n x) []).eval o).run prog wc=.ok (.value v) wc) (nx:∀w',Same w w'->ql N kv cs (b.at ⟨lay n (upd x j v),[]⟩ (.inRegion ops td::k)) w' eT Z):ql N kv cs (b.at ⟨lay n x,[]⟩ (.inRegion ops (i::td)::k)) w eT Z:=by
 refine ql.op jB 0 ho fI hw (Q:=λa w'=>a=⟨lay n (upd x j v),[]⟩/\Same w w') (λa w1 wc s h=>⟨h.1,h.2.trans s⟩) (λwc s=>?_) ?_
 ·refine wp_region_list ?_;refine wpList_plain (o:=Sim.bare o) rfl λK hK=>?_;have Dc:(ax (bB (lay n x) []).eval (Sim.bare o)).run XG.P wc=.ok (.value v) wc:=hr wc s;refine qf Dc (hK _ _ (wpList_nil ⟨rfl,?_,s⟩));show(bB (lay n x) []).put o.dst v=_;exact qc hd
 ·rintro _ w' ⟨rfl,hs⟩;exact nx w' hs
theorem AY {ty:Array aw} {fn:Func} (dW:o.op=.call {callee:=.value (.func f),args:=as',argTypes:=ty}) (hfe:e (.func f)=.func (.func f) #[] #[]) (hv:as'.map e=vs) (hf:prog.funcs[f]?=some fn) (jJ:(fn.name== "runtime.NumGoroutine")=false) (hb:fn.body.isNone=false):
  ∀w,(ax e o).run XG.P w=.ok (.enter f vs) w/\(ax e o).events XG.P w #[]=#[]:=by
 intro w;show(ax _ _).run prog w=_/\(ax _ _).events prog w #[]=_;have hx:ax e o=callFunc f vs:=by subst hv;unfold ax;simp[go_sem,dW,resolve,invoke,hfe]
 rw[hx];have Kz:¬(fn.name= "runtime.NumGoroutine"):=λe=>by rw[e]at jJ;cases jJ
 have fJ:¬(fn.body=none):=λe=>by rw[e]at hb;cases hb
 constructor
 ·simp[callFunc,go_sem,hf,Kz,fJ]
 ·simp[callFunc,go_sem,hf,Kz,fJ]
theorem ql.BX {n r:Nat} {c:Code} {K:List Item} {fn:Func} {R:aa->ac->Prop} {V:aa->Prop} (jB:blG b.fn=false) (vY:b.fn=f) (uS:b.kind=.normal) (hf:prog.funcs[f]?=some fn) (rO:fn.results=#[.tmp r]) (fI:codeOk XG.P XG.P fb true c=true) (hV:∀v,V v->∀ρ,VR XG.F ρ v v) (hS:∀v w wc,Same w wc->R v w->R v wc)
  (hp:∀wc,Same w wc->c.wp prog (fun|.ret,a,w'=>a.defers=[]/\V (a.tmps.getD r bD)/\R (a.tmps.getD r bD) w'|_,_,_=>False) a wc):
  ql N kv cs (b.at a (.code c::K)) w cs (Ret f R):=by
 refine ql.code jB (Q:=fun|.ret,a,w'=>a.defers=[]/\V (a.tmps.getD r bD)/\R (a.tmps.getD r bD) w'|_,_,_=>False) fI (λe a w h=>by cases e<;>first|trivial|exact h) (λe a w1 wc s h=>by cases e<;>first|exact h.elim|exact⟨h.1,h.2.1,hS _ _ _ s h.2.2⟩) hp ?_;intro e a w2 fr hq hl;cases e<;>first|exact hq.elim|skip
 obtain⟨hd,hv,hR⟩:=hq;obtain⟨todo,rfl⟩:=hl;refine ql.done λwc hs=>⟨vY,_,⟨rfl,hd,uS,fn,by show XG.P.funcs[b.fn]?=some fn;rw[vY];exact hf,λw=>?_⟩,λρ _=>hV _ hv ρ,hS _ _ _ hs hR⟩
 show(results fn a.tmps).runT prog w #[]=_;simp[results,rO,go_sem]
theorem ql.opc {td:List Nat} {ty:Array aw} {fn:Func} {R:aa->ac->Prop} (jB:blG b.fn=false) (ho:ops[i]?=some o) (fI:nk XG.P XG.P fb true (Sim.bare o)=true) (hw:ao o (aY ops (lay n x))=true) (hd:o.dst=some j)
  (dW:o.op=.call {callee:=.value (.func f),args:=as',argTypes:=ty}) (hv:as'.map (bB (lay n x) []).eval=vs) (hf:prog.funcs[f]?=some fn) (jJ:(fn.name== "runtime.NumGoroutine")=false) (hb:fn.body.isNone=false) (hS:∀v w wc,Same w wc->R v w->R v wc)
  (hc:∀wc,Same w wc->aK prog f vs wc λe w'=>∃v,e=.returned v/\R v w') (nx:∀v w',R v w'->ql N kv cs (b.at ⟨lay n (upd x j v),[]⟩ (.inRegion ops td::k)) w' eT Z):ql N kv cs (b.at ⟨lay n x,[]⟩ (.inRegion ops (i::td)::k)) w eT Z:=by
 refine ql.op jB 0 ho fI hw (Q:=λa w'=>∃v,a=⟨lay n (upd x j v),[]⟩/\R v w') (λa w1 wc s h=>⟨h.choose,h.choose_spec.1,hS _ _ _ s h.choose_spec.2⟩) (λwc s=>?_) ?_
 ·refine wp_region_list ?_;refine wpList_plain (o:=Sim.bare o) rfl λK hK=>?_;unfold Oper.wp;have hr:(ax (bB (lay n x) []).eval (Sim.bare o)).run XG.P wc=.ok (.enter f vs) wc:=(AY dW rfl hv hf jJ hb wc).1;rw[hr,Oper.upon_enter];refine(hc wc s).mono ?_;rintro e w' ⟨v,rfl,hR⟩;refine hK _ _ (wpList_nil ⟨rfl,v,?_,hR⟩);show(bB (lay n x) []).put o.dst v=_;exact qc hd
 ·rintro _ w' ⟨v,rfl,hR⟩;exact nx v w' hR
theorem Ey {g:Nat} {t:Bool} {og:Oper} (hg:o.guard=some (g,t)) (ho:ops[g]?=some og) (hd:og.dst=some d) (hx:(lay n x)[d]?=some (.bool t)):ao o (aY ops (lay n x))=true:=by
 unfold ao;rw[hg];simp only[aY,bQ,ho,aJ,hd,aD,hx];cases t<;>rfl
theorem jae {g:Nat} {t:Bool} {og:Oper} (hg:o.guard=some (g,t)) (ho:ops[g]?=some og) (hd:og.dst=some d) (hx:(lay n x)[d]?=some (.bool (!t))):ao o (aY ops (lay n x))=false:=by
 unfold ao;rw[hg];simp only[aY,bQ,ho,aJ,hd,aD,hx];cases t<;>rfl
end
def qE (ops:Array Oper) (n tn:Nat):Bool:=
 ((ag ops.size).all λj=>match ops[j]? with
  |some o=>(match o.dst with|some d=>decide (d<n)|none=>false)&&(o.after.all λe=>decide (e.on<j)||!ay .any e)&&(match o.guard with|some g=>o.after.any (λe=>e.on==g.1&&ay .any e)|none=>true)&&((ag ops.size).all λi=>i==j||(match ops[i]? with|some p=>!(p.dst==o.dst)|none=>true))
  |none=>false)&&(decide (ops.size<=tn)||(((ag tn).all λi=>(waits ops tn ((ag ops.size).map λi=>i==tn) ops.size).getD i false)&&((ag ops.size).all λj=>decide (j<=tn)||(waits ops j ((ag ops.size).map λi=>i==j) ops.size).getD tn false)))
section
variable {P:cA} {ops:Array Oper} {n tn:Nat} {x0:Nat->aa} {val:Nat->aa} {J:Bool->ac->Prop}
theorem F9 (h:qE ops n tn=true) (ho:ops[j]?=some o):(∃d,o.dst=some d/\d<n)/\(∀e∈o.after,ay .any e=true->e.on<j)/\(∀g t,o.guard=some (g,t)->∃e∈o.after,e.on=g/\ay .any e=true)/\∀i p,ops[i]?=some p->i≠j->p.dst≠o.dst:=by
 unfold qE at h;simp only[ae]at h;have h:=h.1;rw[aj]at h;have hj:j<ops.size:=(yx ho).1;have:=h j (aq.2 hj);rw[ho]at this;simp only[ae]at this;obtain⟨⟨⟨h1,h2⟩,h3⟩,h4⟩:=this;refine⟨?_,λe he hb=>?_,λg t hg=>?_,λi p hp eB hd=>?_⟩
 ·cases hd:o.dst with
  |none=>rw[hd]at h1;cases h1
  |some d=>rw[hd]at h1;exact⟨d,rfl,of_decide_eq_true h1⟩
 ·have:=(aG.1 h2) e he;rw[hb]at this;simpa using this
 ·rw[hg]at h3;rw[Array.any_eq_true']at h3;obtain⟨e,he,hb⟩:=h3;simp only[ae,beq_iff_eq]at hb;exact⟨e,he,hb.1,hb.2⟩
 ·rw[aj]at h4;have hi:=(yx hp).1;have:=h4 i (aq.2 hi);rw[hp]at this;simp[eB,hd]at this
structure RD (ops:Array Oper) (n tn:Nat) (x0:Nat->aa) (val:Nat->aa) (J:Bool->ac->Prop) (listed:Array Bool) (a:Act) (w:ac):Prop where
 size:listed.size=ops.size
 shut:yI ops listed
 j:J (listed.getD tn false) w
 lay:∃x,a=⟨lay n x,[]⟩/\(∀s,(∀(j:Nat) o,ops[j]?=some o->o.dst≠some s)->x s=x0 s)/\∀(j:Nat) o d,listed.getD j false=true->ops[j]?=some o->o.dst=some d->x d=val j
theorem yw {id:Nat} (hm:P.follows .mixedOrders=true) (hn:qE ops n tn=true) (ha:∃x,a=⟨lay n x,[]⟩/\∀s,x s=x0 s) (hw:J false w.drew)
  (hgv:∀(j:Nat) o g t,ops[j]?=some o->o.guard=some (g,t)->val g=.bool t\/val g=.bool (!t)/\val j=bD/\j≠tn)
  (step:∀(j:Nat) o d x w,ops[j]?=some o->o.dst=some d->(∀s,(∀(j:Nat) o,ops[j]?=some o->o.dst≠some s)->x s=x0 s)->(∀(i:Nat) p e,ops[i]?=some p->p.dst=some e->(∃ed∈o.after,ed.on=i/\ay .any ed=true)->x e=val i)->(∀g t,o.guard=some (g,t)->val g=.bool t)->J (decide (tn<j)) w->
   o.wp P ⟨lay n x,[]⟩ w (λa' w'=>a'=⟨lay n (upd x d (val j)),[]⟩/\J (decide (tn<=j)) w') Q)
  (done:∀x w,(∀s,(∀(j:Nat) o,ops[j]?=some o->o.dst≠some s)->x s=x0 s)->(∀(j:Nat) o d,ops[j]?=some o->o.dst=some d->x d=val j)->J (decide (tn<ops.size)) w->Q .normal ⟨lay n x,[]⟩ w):
  (Code.region id ops true).wp P Q a w:=by
 refine wp_region_any hm ?_
 -- if none is ready,all are done
 have CO:∀{listed:Array Bool},listed.size=ops.size->ah .any ops listed=[]->∀j,j<ops.size->listed.getD j false=true:=by
  intro listed hs mq j;induction j using Nat.strongRecOn with
  |_ j ih=>
   intro hj;cases hv:listed.getD j false with
   |true=>rfl
   |false=>
    exfalso;obtain⟨o,ho⟩:∃o,ops[j]?=some o:=⟨_,az hj⟩
    have dY:j<listed.size:=by omega
    have:j∈ah .any ops listed:=aP.2 ⟨by simp[dY]at hv⊢;exact hv,o,ho,λe he sH=>by
     have:=(F9 hn ho).2.1 e he sH
     exact ih e.on this (by omega)⟩
    rw[mq]at this;cases this
 have wait:∀{listed:Array Bool},yI ops listed->∀m,listed.getD m false=true->∀i,(waits ops m ((ag ops.size).map λi=>i==m) ops.size).getD i false=true->listed.getD i false=true:=λ{listed} iM m hT i hi=>
  FZ ops m iM ops.size ((ag ops.size).map λi=>i==m) (λi hi=>by
   rw[am,bp]at hi;by_cases qG:i<ops.size
   ·rw[List.getElem?_range qG]at hi;simp only[aJ,aW,beq_iff_eq]at hi;rw[hi];exact hT
   ·rw[aU (by simp;omega)]at hi
    cases hi) i hi
 have ht:ops.size<=tn\/((∀i,i<tn->(waits ops tn ((ag ops.size).map λi=>i==tn) ops.size).getD i false=true)/\∀j,j<ops.size->tn<j->(waits ops j ((ag ops.size).map λi=>i==j) ops.size).getD tn false=true):=by
  unfold qE at hn;rw[ae,bE]at hn;rcases hn.2 with h|h
  ·exact .inl (of_decide_eq_true h)
  ·rw[ae,aj,aj]at h;refine .inr ⟨λi hi=>h.1 i (aq.2 hi),λj hj dY=>?_⟩;have:=h.2 j (aq.2 hj);rw[bE]at this;rcases this with h2|h2
   ·have:=of_decide_eq_true h2;omega
   ·exact h2
 have main:∀fuel listed a w,left ops.size listed<=fuel->RD ops n tn x0 val J listed a w->wpAny P .any ops Q fuel listed a w:=by
  intro fuel;have fin:∀listed a w,RD ops n tn x0 val J listed a w->ah .any ops listed=[]->Q .normal a w:=by
   rintro listed a w ⟨h1,h2,h3,x,rfl,h4,h5⟩ mq;have all:=CO h1 mq;refine done x w h4 (λj o d ho hd=>h5 j o d (all j (yx ho).1) ho hd) ?_;by_cases e:tn<ops.size
   ·rw[xdt e];rw[all tn e]at h3;exact h3
   ·rw[zu e];have:listed.getD tn false=false:=by
     rw[aC,aS (by omega)];rfl
    rw[this]at h3;exact h3
  induction fuel with
  |zero=>
   intro listed a w hl hv;have mq:ah .any ops listed=[]:=by
    cases hq:ah .any ops listed with
    |nil=>rfl
    |cons j r=>
     exfalso;have hj:j∈ah .any ops listed:=by rw[hq];exact .head _
     obtain⟨h1,o,ho,_⟩:=aP.1 hj;have:=Jh (yx ho).1 h1;omega
   exact⟨mq,fin listed a w hv mq⟩
  |succ fuel ih=>
   intro listed a w hl hv;refine⟨fin listed a w hv,λj hj=>?_⟩;obtain⟨h1,o,ho,h3⟩:=aP.1 hj;obtain⟨⟨d,hd,rA⟩,qo,Bt,oJ⟩:=F9 hn ho;obtain⟨eU,iM,hJ,x,rfl,hx,mY⟩:=hv;have vV:j<ops.size:=(yx ho).1;have jO:j<listed.size:=by omega
   have Dl:listed.getD j true=false:=by simpa[jO]using h1
   have Bq:listed.getD j false=false:=by simp[jO]at Dl⊢;exact Dl
   have Ca:(listed.setIfInBounds j true).getD j false=true:=by simp[jO]
   have oH:yI ops (listed.setIfInBounds j true):=by
    intro i p hp hi e he sH;by_cases e1:i=j
    ·subst e1;rw[ho]at hp;cases hp;have dY:=qo e he sH;rw[au false (by omega)];exact h3 e he sH
    ·rw[au false (bo e1)]at hi;have h4:=iM i p hp hi e he sH;by_cases e2:e.on=j
     ·rw[e2];exact Ca
     ·rw[au false (bo e2)];exact h4
   have JZ:left ops.size (listed.setIfInBounds j true)<=fuel:=by have:=Ga vV eU h1;omega
   -- where the turn stands
   have now:listed.getD tn false=decide (tn<j):=by
    rcases ht with h|⟨hA,hB⟩
    ·rw[zu (by omega),aC,aS (by omega)];rfl
    ·rcases Nat.lt_trichotomy j tn with h|h|h
     ·rw[zu (by omega)];cases hv:listed.getD tn false with
      |false=>rfl
      |true=>
       have:=wait iM tn hv j (hA j h);rw[Bq]at this;cases this
     ·subst h;rw[Bq,zu (by omega)]
     ·rw[xdt h];have:=wait oH j Ca tn (hB j vV h);rwa [au false (by omega)]at this
   have behind:(listed.setIfInBounds j true).getD tn false=decide (tn<=j):=by
    by_cases e:tn=j
    ·subst e;rw[Ca,xdt (ji _)]
    ·rw[au false (bo e),now];by_cases h:tn<j
     ·rw[xdt h,xdt (by omega)]
     ·rw[zu h,zu (by omega)]
   have next:∀w',J (decide (tn<=j)) w'->RD ops n tn x0 val J (listed.setIfInBounds j true) ⟨lay n (upd x d (val j)),[]⟩ w':=λw' Hz=>by
    refine⟨by simpa using eU,oH,by rw[behind];exact Hz,_,rfl,λs hs=>?_,λi p e hi hp he=>?_⟩
    ·unfold upd;rw[if_neg λe=>hs j o ho (by rw[hd,e])];exact hx s hs
    ·by_cases e1:i=j
     ·subst e1;rw[ho]at hp;cases hp;rw[hd]at he;cases he;unfold upd;rw[if_pos rfl]
     ·have eB:e≠d:=λe2=>oJ i p hp e1 (by rw[he,hd,e2]);unfold upd;rw[if_neg eB];rw[au false (bo e1)]at hi;exact mY i p e hi hp he
   rw[now]at hJ;have dep:∀(i:Nat) p e,ops[i]?=some p->p.dst=some e->(∃ed∈o.after,ed.on=i/\ay .any ed=true)->x e=val i:=λi p e hp he ⟨ed,Dt,h5,h6⟩=>mY i p e (by rw[<-h5];exact h3 ed Dt h6) hp he;have go:(∀g t,o.guard=some (g,t)->val g=.bool t)->o.wp P ⟨lay n x,[]⟩ w (wpAny P .any ops Q fuel (listed.setIfInBounds j true)) Q:=λhg=>by
    refine Oper.wp_mono ?_ (step j o d x w ho hd hx dep hg hJ);rintro a' w' ⟨rfl,Hz⟩;exact ih _ _ _ JZ (next w' Hz)
   unfold wpOp;rw[ho];simp only;cases hg:o.guard with
   |none=>
    have hw:ao o (aY ops (lay n x))=true:=by unfold ao;rw[hg]
    rw[if_pos hw];exact .inl (go λg t e=>by rw[hg]at e;cases e)
   |some gt=>
    obtain⟨g,t⟩:=gt;obtain⟨ed,Ho,KF,Wy⟩:=Bt g t hg;have Ot:=h3 ed Ho Wy;rw[KF]at Ot;have hgs:g<ops.size:=by
     have:=qo ed Ho Wy;omega
    obtain⟨og,Ky⟩:∃og,ops[g]?=some og:=⟨_,az hgs⟩
    obtain⟨dg,E8,VA⟩:=(F9 hn Ky).1;have V7:=mY g og dg Ot Ky E8;rcases hgv j o g t ho hg with hv|⟨hv,hu,htn⟩
    ·have hw:ao o (aY ops (lay n x))=true:=Ey hg Ky E8 (by rw[Eu VA,V7,hv]);rw[if_pos hw];exact .inl (go λg' t' e=>by rw[hg]at e;cases e;exact hv)
    ·have hw:ao o (aY ops (lay n x))=false:=jae hg Ky E8 (by rw[Eu VA,V7,hv]);rw[if_neg (by rw[hw];decide)];have e:(bB (lay n x) []).put o.dst bD=⟨lay n (upd x d (val j)),[]⟩:=by rw[hu];exact qc hd
     rw[e];refine ih _ _ _ JZ (next w ?_);have:decide (tn<=j)=decide (tn<j):=by
      by_cases h:tn<j
      ·rw[xdt h,xdt (by omega)]
      ·rw[zu h,zu (by omega)]
     rw[this];exact hJ
 obtain⟨x,rfl,hx⟩:=ha;have e0:∀i,(bF ops.size false).getD i false=false:=λi=>by
  by_cases h:i<ops.size<;>simp[h]
 refine main _ _ _ _ (xlt (List.countP_le_length) (by simp)) ⟨by simp,λj o ho hj=>?_,?_,x,rfl,λs _=>hx s,λj o d hj ho hd=>?_⟩
 ·rw[e0]at hj;cases hj
 ·rw[e0];exact hw
 ·rw[e0]at hj;cases hj
theorem uL {ty:Array aw} {fn:Func} {next:Act->ac->Prop} (dW:o.op=.call {callee:=.value (.func f),args:=as',argTypes:=ty}) (hv:as'.map a.eval=vs) (hf:prog.funcs[f]?=some fn) (jJ:(fn.name== "runtime.NumGoroutine")=false) (hb:fn.body.isNone=false)
  (hc:aK prog f vs w λe w'=>∃v,e=.returned v/\next (a.put o.dst v) w'):o.wp prog a w next Q:=by
 unfold Oper.wp;have hr:(ax a.eval o).run prog w=.ok (.enter f vs) w:=(AY dW rfl hv hf jJ hb w).1;rw[hr,Oper.upon_enter];refine hc.mono ?_;rintro e w' ⟨v,rfl,hR⟩;exact hR
end
end Ph
open Go.RowKit Go.Maps
section
variable {w:ac}
theorem SN {v:aa} {l:KV} {base:Nat} (h:w.ownsRow base 74 2 v l.length (flat l)) {g:Nat} (hg:v.ownBlock=some g) {p:Bs×Bs} (hp:l[j]?=some p):w.cell? ⟨g,j*2,none⟩=some (sv p.1)/\w.cell? ⟨g,j*2+1,none⟩=some (sv p.2):=by
 obtain⟨q1,q2⟩:=flat_get l j p hp;have d1:=h.cells hg _ _ q1;have d2:=h.cells hg _ _ q2;rw[aM,aR]at d1 d2;exact⟨d1,d2⟩
end
structure NS where
 cs:aa
 bs:aa
 out:Nat->Prop
section
variable {n0:Nat} {CS:NS} {w:ac}
def mnK:ByteArray:=⟨#[109,105,110,101]⟩
def mnV (k:Nat):ByteArray:=⟨#[UInt8.ofNat (k%256),UInt8.ofNat (k/256%256),UInt8.ofNat (k/65536%256)]⟩
def UW (w:ac):aa->List aa
 |.slice (some a) n _=>match w.heap[a.block]? with
  |some (.cells cur _ _)=>cur.toList.take n
  |_=>[]
 |_=>[]
def VY (w:ac) (S:aa) (g:Nat):Prop:= ∃l∈UW w S,l.ownBlock=some g
def jb6 (w:ac) (k:Nat) (l:aa):Prop:= ∃m ys,w.ownsRow 0 74 2 l m ys/\∀i,i<m->ys[i*2]?=some (.string mnK)/\ys[i*2+1]?=some (.string (mnV k))
structure LsAt (n0:Nat) (w:ac) (W:Nat) (CS:NS) (S:aa) (n:Nat):Prop where
 b:∃cur,w.heap[W]?=some (.cells cur 36 (0,0))/\cur[2]?=some S/\cur[0]?=some CS.cs/\cur[1]?=some CS.bs/\cur[3]?=some (.bool false)
 row:∃xs,w.ownsRow n0 47 1 S n xs
 kept:∀k l,(UW w S)[k]?=some l->jb6 w k l
 out:∀g,VY w S g->¬CS.out g
theorem jd {w:ac} {base size:Nat} {ty:aw} {v:aa} (h:w.ownsRow base ty size v n xs) (k:∀g,v.ownBlock=some g->w'.heap[g]?=w.heap[g]?):w'.ownsRow base ty size v n xs:=by
 refine⟨h.1,h.2.imp id ?_⟩;rintro⟨g,cap,cur,rfl,h1,h2,h3⟩;exact⟨g,cap,cur,rfl,h1,(k g rfl).trans h2,h3⟩
theorem wS {w:ac} {base size:Nat} {ty:aw} {v:aa} (h:w.ownsRow base ty size v n xs) {g:Nat} (hg:v.ownBlock=some g):∃cur,w.heap[g]?=some (.cells cur ty (0,0)):=by
 rcases h.2 with⟨rfl,_⟩|⟨g',cap,cur,rfl,_,h2,_⟩
 ·cases hg
 ·cases hg;exact⟨cur,h2⟩
def jgu (W:Nat) (S l:aa) (b:Nat):Prop:=b=W\/S.ownBlock=some b\/l.ownBlock=some b
structure MnW (n0:Nat) (CS:NS) (w0:ac) (W n m base g cap k:Nat) (S:aa) (x y:ByteArray) (j:Nat) (w:ac):Prop where
 ls:LsAt n0 w W CS S n
 row:∃xs,w.ownsRow base 74 2 (.slice (some ⟨g,0,none⟩) m cap) m xs/\∀i,i<j->xs[i*2]?=some (.string x)/\xs[i*2+1]?=some (.string y)
 new:∀g',VY w S g'->g'≠g
 mrk:w.heap[k]?=some (.cells #[.string x,.string y] 74 (0,0))
 gk:g<k
 but:But (jgu W S (.slice (some ⟨g,0,none⟩) m cap)) w0 w
section
variable {w0:ac} {W n m base g cap k:Nat} {S:aa} {x y:ByteArray}
end
theorem cell1 (w:ac) (a:aa) (ty:aw):∀(j:Nat) (u:aa),[a][j]?=some u->(w.alloc (.cells #[a] ty)).cell? ((⟨w.heap.size,0,none⟩:Addr).add j)=some u:=λj u hj=>by
 rw[aM,aR];match j,hj with
 |0,hj=>simp at hj;subst hj;go_simp
end
def mpA:Option Nat->Option Addr
 |none=>none
 |some g=>some ⟨g,0,none⟩
def ptr:Option Nat->aa
 |none=>.pointer none
 |some g=>.pointer (some ⟨g,0,none⟩)
theorem FL (o:Option Nat):ptr o=.pointer (mpA o):=by cases o<;>rfl
def pkV (h k:Nat):aa:=.agg #[.int .i64 h,.int .i64 k]
noncomputable def pk (h k:Nat):Lit:=(keyOf prog 154 (pkV h k)).getD .nil
theorem jj1:((ag 16).all λi=>(keyOf prog 154 (pkV (i/4) (i%4))).isSome)=true:=by kernel_rfl
theorem jex (h:Nat) (hh:h<4) (k:Nat) (hk:k<4):(keyOf prog 154 (pkV h k)).isSome=true:=by
 have:=aj.1 jj1 (h*4+k) (aq.2 (by omega));rwa [show(h*4+k)/4=h by omega,show(h*4+k)%4=k by omega]at this
theorem AB {k:Nat} (hh:h<4) (hk:k<4):keyOf prog 154 (pkV h k)=some (pk h k):=by
 obtain⟨l,hl⟩:=Option.isSome_iff_exists.1 (jex h hh k hk);unfold pk;rw[hl];rfl
theorem Yz:laidOutB prog=true:=by kernel_rfl
theorem q3t:(154:aw)<prog.types.size:=of_decide_eq_true (by kernel_rfl)
theorem Yy:(match prog.underlying 154 with|some (.array _ _)|some (.struct _)=>true|_=>false)=true:=by rw[underlying154]
theorem wT:Keyed prog 154:=Keyed.of_law (deep_law_laid Yz (m:=3) (by omega) q3t (by kernel_rfl) Yy)
theorem FO {k h' k':Nat} (hh:h<4) (hk:k<4) (Dp:h'<4) (pG:k'<4) (e:pk h k=pk h' k'):h=h'/\k=k':=by
 have:=wT.inj (AB hh hk) (e▸AB Dp pG);simp only[pkV,Value.agg.injEq]at this;have e2:=congrArg Array.toList this;simp at e2;omega
theorem FN {k:Nat} (hh:h<4) (hk:k<4):WideAt.IsKeyLit (pk h k):=wT.key (AB hh hk)
def Rp:aa->Option (DataW Unit×List cB)
 |.pointer none=>some (.lit .nil,[])
 |.pointer (some ⟨g,0,none⟩)=>some (.lit (.int .i64 g),[])
 |_=>none
def pd:Option Nat->DataW Unit
 |none=>.lit .nil
 |some g=>.lit (.int .i64 g)
theorem jcd (o:Option Nat):Rp (ptr o)=some (pd o,[]):=by cases o<;>rfl
theorem QK {v:aa} {o:Option Nat} {ps:List cB} (h:Rp v=some (pd o,ps)):v=ptr o:=by
 unfold Rp at h;split at h
 ·cases o with
  |none=>rfl
  |some g=>simp[pd]at h
 ·cases o with
  |none=>simp[pd]at h
  |some g=>simp only[pd,bm,Prod.mk.injEq,DataW.lit.injEq,Lit.int.injEq,true_and,Int.natCast_inj]at h;rw[h.1];rfl
 ·cases h
def jY (w:ac) (sm:Nat) (f:Nat->Nat->Option Nat):Prop:= ∃n D,w.ownsMap prog 154 Rp sm n D/\(∀h k,h<4->k<4->D.atKey (pk h k) (pd none)=pd (f h k))/\∀kl,Maps.has D kl=true->∃h k,h<4/\k<4/\kl=pk h k/\(f h k).isSome=true
def zo {α:Type} (f:Nat->Nat->Option α) (h k:Nat) (o:Option α):Nat->Nat->Option α:=λa b=>if a=h/\b=k then o else f a b
theorem ku {α:Type} (f:Nat->Nat->Option α) (h k:Nat) (o:Option α):zo f h k o h k=o:=by unfold zo;rw[if_pos ⟨rfl,rfl⟩]
theorem ze {α:Type} {f:Nat->Nat->Option α} {k a:Nat} {o:Option α} (e:¬(a=h/\b=k)):zo f h k o a b=f a b:=by unfold zo;rw[if_neg e]
section
variable {w w':ac} {sm h k:Nat} {f:Nat->Nat->Option Nat}
theorem jY.lt (m:jY w sm f):sm<w.heap.size:=by
 obtain⟨n,D,ho,_⟩:=m;exact ho.lt
theorem jY.map (m:jY w sm f):∃es ck,w.heap[sm]?=some (.map es ck):=by
 obtain⟨n,D,⟨es,ck,hb,_⟩,_⟩:=m;exact⟨es,ck,hb⟩
theorem jY.block (m:jY w sm f) (e:w'.heap[sm]?=w.heap[sm]?):jY w' sm f:=by
 obtain⟨n,D,⟨es,ck,hb,r⟩,m2,m3⟩:=m;exact⟨n,D,⟨es,ck,e.trans hb,r⟩,m2,m3⟩
theorem jY.ty (m:jY w sm f) {cur:Array aa} {ty:aw} (hb:w.heap[b]?=some (.cells cur ty (0,0))):b≠sm:=λe=>by
 obtain⟨es,ck,h⟩:=m.map;rw[e,h]at hb;cases hb
theorem jY.q3e (hb:w.heap[sm]?=some (.map #[] 0)):jY w sm (λ_ _=>none):=⟨0,.map [],⟨#[],0,hb,⟨by simp,MapKept.stamped_empty 0,by simp⟩,ji _,rfl⟩,λh k _ _=>rfl,λkl h=>by simp[Maps.has]at h⟩
theorem jY.few (m:jY w sm f):∃D,w.ownsMap prog 154 Rp sm 16 D/\(∀h k,h<4->k<4->D.atKey (pk h k) (pd none)=pd (f h k))/\∀kl,Maps.has D kl=true->∃h k,h<4/\k<4/\kl=pk h k/\(f h k).isSome=true:=by
 obtain⟨n,D,ho,m2,m3⟩:=m;refine⟨D,?_,m2,m3⟩;obtain⟨gm,e0,hp,kH⟩:=ho.entries wT;obtain⟨es,ck,hb,F,hs,hD⟩:=ho;refine⟨es,ck,hb,F,?_,hD⟩;have hl:es.size=gm.length:=by
  rw[e0]at hD;injection hD with hD;rw[hD,length_sorted];simp
 rw[hl,<-cu (f:=Prod.fst)];have jP:gm.map Prod.fst ⊆ (ag 4).flatMap λh=>(ag 4).map λk=>pk h k:=λl hl=>by
  obtain⟨p,jV,rfl⟩:=List.mem_map.1 hl;obtain⟨h,k,hh,hk,e,_⟩:=m3 p.1 (by rw[e0,Maps.has_eq,bw];exact⟨p,jV,WideAt.sameKey_self (kH p jV)⟩);rw[e];exact List.mem_flatMap.2 ⟨h,aq.2 hh,List.mem_map.2 ⟨k,aq.2 hk,rfl⟩⟩
 have:=List.Nodup.length_le_of_subset ((List.pairwise_map.2 hp:(gm.map Prod.fst).Pairwise (· ≠·))) jP;exact this
theorem jav (w:ac):(zeroValue 155).run prog w=.ok (.pointer none) w:=by kernel_rfl
theorem jY.look (m:jY w sm f) (hh:h<4) (hk:k<4):(Instr.lookup 76 (.map (some sm)) (pkV h k) false).run prog w=.ok (ptr (f h k)) w:=by
 obtain⟨n,D,ho,m2,_⟩:=m;obtain⟨v,ps,eG,hv⟩:=ho.lookup wT underlying76 (jav w) (zd:=pd none) (zp:=[]) rfl (AB hh hk);rw[m2 h k hh hk]at hv;rw[eG,QK hv]
theorem jY.put (m:jY w sm f) (hh:h<4) (hk:k<4) (g:Nat):∃w',(Instr.mapUpdate 76 (.map (some sm)) (pkV h k) (.pointer (some ⟨g,0,none⟩))).run prog w=.ok () w'/\jY w' sm (zo f h k (some g))/\But (· =sm) w w':=by
 obtain⟨D,ho,m2,m3⟩:=m.few;obtain⟨w',eG,su,hg⟩:=ho.update wT underlying76 (by decide) (AB hh hk) (jcd (some g));refine⟨w',eG,⟨_,_,su,λa b ha hb=>?_,λkl nM=>?_⟩,⟨hg.size,λi hi hb=>hg.block i hi (by simpa using hb),hg.os,hg.output⟩⟩
 ·by_cases e:a=h/\b=k
  ·obtain⟨rfl,rfl⟩:=e;rw[ku,Maps.atKey_put_same ho.isMap (FN ha hb)]
  ·rw[ze e,Maps.atKey_put_other (λe2=>e (FO ha hb hh hk e2)),m2 a b ha hb]
 ·by_cases e:kl=pk h k
  ·exact⟨h,k,hh,hk,e,by rw[ku];rfl⟩
  ·rw[Maps.has_put_other e]at nM;obtain⟨a,b,ha,hb,e2,e3⟩:=m3 kl nM;exact⟨a,b,ha,hb,e2,by rw[ze (λe4=>e (by rw[e2,e4.1,e4.2]))];exact e3⟩
theorem jY.del (m:jY w sm f) (hh:h<4) (hk:k<4) (ty:aw):∃w',(Builtin.delete_ #[76,154] ty #[.map (some sm),pkV h k]).run prog w=.ok (.tuple #[]) w'/\jY w' sm (zo f h k none)/\But (· =sm) w w':=by
 obtain⟨n,D,ho,m2,m3⟩:=m;obtain⟨w',eG,su,⟨es,ck,iD,Xb,hb,rfl⟩⟩:=World.ownsMap.drop ho wT underlying76 (AB hh hk) ty;refine⟨_,eG,⟨_,_,su,λa b ha hb=>?_,λkl nM=>?_⟩,⟨by simp[ChangeMaps.setBlock],λi hi hn=>ChangeMaps.heap_setBlock_other hb _ hn,rfl,rfl⟩⟩
 ·by_cases e:a=h/\b=k
  ·obtain⟨rfl,rfl⟩:=e;rw[ku,Maps.atKey_del_same]
  ·rw[ze e,Maps.atKey_del_other (λe2=>e (FO ha hb hh hk e2)),m2 a b ha hb]
 ·by_cases e:kl=pk h k
  ·rw[e,Maps.has_del_same]at nM;cases nM
  ·rw[Maps.has_del_other e]at nM;obtain⟨a,b,ha,hb,e2,e3⟩:=m3 kl nM;exact⟨a,b,ha,hb,e2,by rw[ze (λe4=>e (by rw[e2,e4.1,e4.2]))];exact e3⟩
end
theorem ZT (w:ac) (g j:Nat) {cur:Array aa} {e:aw} {fr:Nat×Nat} (v:aa) (h:w.heap[g]?=some (.cells cur e fr)):(w.setCell ⟨g,j,none⟩ v).heap[g]?=some (.cells (cur.setIfInBounds j v) e fr):=by
 simp[World.setCell,Array.getElem?_modify,h]
theorem Un (g:Nat):∀(vs:List aa) (o:Nat) (w:ac) (cur:Array aa) (e:aw) (fr:Nat×Nat),w.heap[g]?=some (.cells cur e fr)->o+vs.length<=cur.size->
  ∃nH,(w.setCells g o vs).heap[g]?=some (.cells nH e fr)/\nH.size=cur.size/\∀k,nH[k]?=if o<=k/\k<o+vs.length then vs[k-o]? else cur[k]?
 |[],o,w,cur,e,fr,h,hl=>⟨cur,h,rfl,λk=>by rw[if_neg (by rw[cx];omega)]⟩
 |v::r,o,w,cur,e,fr,h,hl=>by
  simp only[aV]at hl;obtain⟨nH,a1,a2,a3⟩:=Un g r (o+1) _ _ e fr (ZT w g o v h) (by simp;omega);refine⟨nH,a1,by simpa using a2,λk=>?_⟩;rw[a3 k];simp only[aV];by_cases hk:k=o
  ·subst hk;rw[if_neg (by omega),if_pos (by omega),xsl (by omega),Nat.sub_self];rfl
  ·rw[xne (by omega)];by_cases h1:o+1<=k/\k<o+1+r.length
   ·rw[if_pos h1,if_pos (by omega),show k-o=(k-(o+1))+1 by omega,List.getElem?_cons_succ]
   ·rw[if_neg h1,if_neg (by omega)]
theorem setCells_size (g:Nat):∀(vs:List aa) (o:Nat) (w:ac),(w.setCells g o vs).heap.size=w.heap.size/\(w.setCells g o vs).tape=w.tape
 |[],o,w=>⟨rfl,rfl⟩
 |v::r,o,w=>by
  obtain⟨h1,h2⟩:=setCells_size g r (o+1) (w.setCell ⟨g,o,none⟩ v);exact⟨h1.trans (by simp),h2.trans rfl⟩
def za (w:ac) (e:aw) (size:Nat) (v:aa) (n:Nat) (xs:List aa):Prop:=xs.length=n*size/\((v=.slice none 0 0/\n=0)\/∃g off cap cur,v=.slice (some ⟨g,off,none⟩) n cap/\w.heap[g]?=some (.cells cur e (0,0))/\n<=cap/\cap<=bi/\off+cap*size<=cur.size/\∀j u,xs[j]?=some u->cur[off+j]?=some u)
section
variable {w w':ac} {e:aw} {size n:Nat} {v:aa} {xs:List aa}
theorem za.of {base:Nat} (h:w.ownsRow base e size v n xs):za w e size v n xs:=by
 refine⟨h.1,h.2.imp id ?_⟩;rintro⟨g,cap,cur,rfl,_,h2,h3,h4,h5,h6⟩;refine⟨g,0,cap,cur,rfl,h2,h3,h4,by rw[h5];omega,λj u hu=>?_⟩;rw[<-h6,List.getElem?_take]at hu;split at hu
 ·simpa using hu
 ·cases hu
theorem za.block (h:za w e size v n xs) (k:∀g,v.ownBlock=some g->w'.heap[g]?=w.heap[g]?):za w' e size v n xs:=by
 refine⟨h.1,h.2.imp id ?_⟩;rintro⟨g,off,cap,cur,rfl,h2,h3⟩;exact⟨g,off,cap,cur,rfl,(k g rfl).trans h2,h3⟩
theorem za.lt (h:za w e size v n xs) {g:Nat} (hg:v.ownBlock=some g):g<w.heap.size:=by
 rcases h.2 with⟨rfl,_⟩|⟨g',off,cap,cur,rfl,h2,_⟩
 ·cases hg
 ·cases hg;exact(yx h2).1
theorem za.ty (h:za w e size v n xs) {g:Nat} (hg:v.ownBlock=some g):∃cur,w.heap[g]?=some (.cells cur e (0,0)):=by
 rcases h.2 with⟨rfl,_⟩|⟨g',off,cap,cur,rfl,h2,_⟩
 ·cases hg
 ·cases hg;exact⟨cur,h2⟩
theorem za.shape (h:za w e size v n xs):∃sa cp,v=.slice sa n cp/\n<=cp/\cp<=bi:=by
 rcases h.2 with⟨rfl,rfl⟩|⟨g',off,cap,cur,rfl,_,h3,h4,_⟩
 ·exact⟨_,_,rfl,ji _,by decide⟩
 ·exact⟨_,_,rfl,h3,h4⟩
theorem za.cells {g off m cap:Nat} (h:za w e size (.slice (some ⟨g,off,none⟩) m cap) n xs):∀j u,xs[j]?=some u->w.cell? ⟨g,off+j,none⟩=some u:=λj u hu=>by
 rcases h.2 with⟨e,_⟩|⟨g',off',cap',cur,e,h2,h3,h4,h5,h6⟩
 ·cases e
 ·cases e;simp[aO,h2,h6 j u hu]
theorem za.cut {sa:Option Addr} {cp:Nat} {o9:Option Addr} (h:za w e size (.slice sa n cp) n xs) (hi:i<=n) (xD:∀g off,sa=some ⟨g,off,none⟩->o9=if cp=i then some ⟨g,off,none⟩else some ⟨g,off+i*size,none⟩) (hn:sa=none->o9=none):za w e size (.slice o9 (n-i) (cp-i)) (n-i) (xs.drop (i*size)):=by
 refine⟨by rw[bz,h.1,Nat.sub_mul],?_⟩;rcases h.2 with⟨e1,rfl⟩|⟨g,off,cap,cur,e1,h2,h3,h4,h5,h6⟩
 ·cases e1;exact .inl ⟨by rw[hn rfl];simp,by omega⟩
 ·injection e1 with q1 q2 q3;subst q1 q3;refine .inr ?_;by_cases hc:cp=i
  ·have zO:n=i:=by omega
   refine⟨g,off,0,cur,?_,h2,by omega,xzl _,?_,λj u hu=>?_⟩
   ·rw[xD g off rfl,if_pos hc,hc,Nat.sub_self]
   ·have:=xzl (cp*size);omega
   ·rw[bR]at hu;have:=(aN.1 hu).1;rw[h.1,zO]at this;omega
  ·refine⟨g,off+i*size,cp-i,cur,by rw[xD g off rfl,if_neg hc],h2,by omega,by omega,?_,λj u hu=>?_⟩
   ·rw[Nat.sub_mul];have:i*size<=cp*size:=aL _ (by omega);omega
   ·rw[bR]at hu;rw[Nat.add_assoc];exact h6 _ u hu
end
section
variable {P:cA} (w:ac)
theorem qmp (t ty e:aw) (i:TypeInfo) (z:aa) (size bytes:Nat) (ht:P.underlying t=some (.slice e)) (hi:P.info? e=some i) (hz:i.zero=some z)
  (pR:i.size=size) (Bv:i.bytes=bytes) (GU:z.cells.size=size) (v:aa) (n:Nat) (xs:List aa) (fD:za w e size v n xs)
  (ad:Addr) (c:Nat) (news:List aa) (hl:news.length=size) (kI:∀j u,news[j]?=some u->w.cell? (ad.add j)=some u) (h1:∀u∈news,u.oneCell'=true)
  (Fe:n+1<=bi) (jS:(n+1)*bytes<=140737488355328):
  ∃g off cap w',(Builtin.append_ #[t,t] ty #[v,.slice (some ad) 1 c]).run P w=.ok (.slice (some ⟨g,off,none⟩) (n+1) cap) w'/\
   za w' e size (.slice (some ⟨g,off,none⟩) (n+1) cap) (n+1) (xs++news)/\w.grownBy w' v.ownBlock/\(v.ownBlock=some g\/g=w.heap.size):=by
 subst pR;subst Bv;have hlen:(xs++news).length=(n+1)*i.size:=by rw[aA,fD.1,hl,Nat.add_mul,Nat.one_mul]
 have hs:_root_.Go.Src P i.size t (.slice (some ad) 1 c) 1 news w:=_root_.Go.Src.ofSlice w ht ad 1 c news (by omega) kI h1;have grow:∀(base:Option Addr) (old:Nat),old<n+1->(Builtin.firstCells i.size n (.slice base n old)).run P w.drew=.ok xs.toArray w.drew->∃g off cap w',(Builtin.append_ #[t,t] ty #[.slice base n old,.slice (some ad) 1 c]).run P w=.ok (.slice (some ⟨g,off,none⟩) (n+1) cap) w'/\
   za w' e i.size (.slice (some ⟨g,off,none⟩) (n+1) cap) (n+1) (xs++news)/\w.grownBy w' (Value.ownBlock (.slice base n old))/\(Value.ownBlock (.slice base n old)=some g\/g=w.heap.size):=λbase old ho hold=>by
  have hr:=run_append_grow_src (P:=P) w t t ty e i z ht hi hz base n old xs hold (.slice (some ad) 1 c) 1 news hs ho (by simp only[bi]at Fe;omega) (growslice_fits ho jS);have nD:=grownCap_ge w (n+1) old e;have xJ:=grownCap_le_maxLen w (n+1) old e Fe;refine⟨_,_,_,_,hr,⟨hlen,.inr ⟨w.heap.size,0,_,_,rfl,_root_.Go.heap_alloc_new w.drew _,nD,xJ,?_,λj u hu=>?_⟩⟩,⟨rfl,rfl,rfl,by simp,λk hk _=>_root_.Go.heap_alloc_old w.drew _ hk⟩,.inr rfl⟩
  ·simp only[Array.size_append,bU,size_zeroCells,GU,hlen,<-Nat.add_mul];rw[show n+1+(grownCap w (n+1) old e-(n+1))=grownCap w (n+1) old e by omega];omega
  ·rw[aR,Array.getElem?_append_left (by simpa using(aN.1 hu).1)];simpa using hu
 rcases fD.2 with⟨rfl,rfl⟩|⟨g,off,cap,cur,rfl,hg,EU,xJ,gH,hx⟩
 ·have V6:xs=[]:=List.eq_nil_of_length_eq_zero (by simpa using fD.1);exact grow none 0 (by omega) (by rw[V6];exact run_firstCells_none w.drew i.size 0 0 0)
 ·by_cases jI:n+1<=cap
  ·have rQ:off+n*i.size+news.length<=cur.size:=by
    have:(n+1)*i.size<=cap*i.size:=aL _ jI;rw[Nat.add_mul,Nat.one_mul]at this;omega
   have hr:=run_append_room_src (P:=P) w t t ty e i ht hi g off n cap (.slice (some ad) 1 c) 1 news hs jI (λj hj=>by
    have:off+n*i.size+j<cur.size:=by omega
    simp[aO,hg,this]) (λj hj=>by simp[bu,hg])
   obtain⟨nH,a1,a2,a3⟩:=Un g news (off+n*i.size) w cur e (0,0) hg rQ;have hxl:=fD.1;refine⟨g,off,cap,_,hr,⟨hlen,.inr ⟨g,off,cap,nH,rfl,a1,jI,xJ,by rw[a2];exact gH,λj u hu=>?_⟩⟩,⟨World.os_setCells w g _ news,?_,World.output_setCells w g _ news,?_,λk hk eB=>World.heap_setCells_other w g _ news hk λe=>eB (by rw[e];rfl)⟩,.inl rfl⟩
   ·rw[a3];by_cases hj:j<xs.length
    ·rw[if_neg (by omega)];rw[List.getElem?_append_left hj]at hu;exact hx j u hu
    ·rw[List.getElem?_append_right (by omega)]at hu;have:=(aN.1 hu).1;rw[if_pos (by omega),show off+j-(off+n*i.size)=j-xs.length by omega];exact hu
   ·exact(setCells_size g news _ w).2
   ·exact Nat.le_of_eq (setCells_size g news _ w).1.symm
  ·have hold:(Builtin.firstCells i.size n (.slice (some ⟨g,off,none⟩) n cap)).run P w.drew=.ok xs.toArray w.drew:=run_firstCells_some w.drew i.size n ⟨g,off,none⟩ n cap xs fD.1 λj u hu=>by
    rw[aM];exact(fD.cells j u hu)
   exact grow _ cap (by omega) hold
end
section
variable {P:cA} (w:ac)
theorem qno {K:Act->ac->Prop} (s x:aX) (t:aw)
  (ho:o.op=.call {callee:=.builtin .append,args:=#[s,x],argTypes:=#[t,t]})
  (e:aw) (i:TypeInfo) (z:aa) (size bytes:Nat) (ht:P.underlying t=some (.slice e)) (hi:P.info? e=some i) (hz:i.zero=some z)
  (pR:i.size=size) (Bv:i.bytes=bytes) (GU:z.cells.size=size)
  (v:aa) (n:Nat) (xs:List aa) (hs:a.eval s=v) (fD:za w e size v n xs)
  (ad:Addr) (c:Nat) (news:List aa) (hx:a.eval x=.slice (some ad) 1 c) (hl:news.length=size) (kI:∀j u,news[j]?=some u->w.cell? (ad.add j)=some u) (h1:∀u∈news,u.oneCell'=true)
  (Fe:n+1<=bi) (jS:(n+1)*bytes<=140737488355328) (H:Nat) (hH:w.heap.size=H)
  (h:∀g off cap w',za w' e size (.slice (some ⟨g,off,none⟩) (n+1) cap) (n+1) (xs++news)->w.grownBy w' v.ownBlock->(v.ownBlock=some g\/g=H)->K (a.put o.dst (.slice (some ⟨g,off,none⟩) (n+1) cap)) w'):o.wp P a w K Q:=by
 obtain⟨g,off,cap,w',hr,h2,h3,h4⟩:=qmp (P:=P) w t o.type e i z size bytes ht hi hz pR Bv GU v n xs fD ad c news hl kI h1 Fe jS;rw[hH]at h4;unfold Oper.wp ax;simp only[ho,resolve,invoke,builtin,Sem.run_bind,Sem.run_pure,Result.andThen_ok,List.map_toArray,cL,cU,hs,hx,hr];exact h g off cap w' h2 h3 h4
theorem qkx {K:Act->ac->Prop} {E:Prop} (Bt:o.guard=none) (s x:aX) (t:aw)
  (ho:o.op=.call {callee:=.builtin .append,args:=#[s,x],argTypes:=#[t,t]})
  (e:aw) (i:TypeInfo) (z:aa) (size bytes:Nat) (ht:P.underlying t=some (.slice e)) (hi:P.info? e=some i) (hz:i.zero=some z)
  (pR:i.size=size) (Bv:i.bytes=bytes) (GU:z.cells.size=size)
  (v:aa) (n:Nat) (xs:List aa) (hs:a.eval s=v) (fD:za w e size v n xs)
  (ad:Addr) (c:Nat) (news:List aa) (hx:a.eval x=.slice (some ad) 1 c) (hl:news.length=size) (kI:∀j u,news[j]?=some u->w.cell? (ad.add j)=some u) (h1:∀u∈news,u.oneCell'=true)
  (Fe:n+1<=bi) (jS:(n+1)*bytes<=140737488355328) (H:Nat) (hH:w.heap.size=H)
  (h:∀g off cap w',za w' e size (.slice (some ⟨g,off,none⟩) (n+1) cap) (n+1) (xs++news)->w.grownBy w' v.ownBlock->(v.ownBlock=some g\/g=H)->K (a.put o.dst (.slice (some ⟨g,off,none⟩) (n+1) cap)) w'):
  if ao o (aY ops a.tmps)=true then Oper.wp P o a w K Q else E:=by
 have hw:ao o (aY ops a.tmps)=true:=by simp[ao,Bt]
 rw[if_pos hw];exact qno w s x t ho e i z size bytes ht hi hz pR Bv GU v n xs hs fD ad c news hx hl kI h1 Fe jS H hH h
end
structure Chg where
 k:Bs
 v:Bs
 g:Bool
structure Mv where
 id:Nat
 fr:Nat
 to:Nat
 ps:KV
 cs:List Chg
 sent:Bs
 n:Nat
 kind:Nat
 parts:Nat
 sealed:Bool
structure Sg where
 id:Nat
 next:Nat
 kv:KV
 done:Bool
structure St where
 hosts:Nat
 ow:Nat->Nat
 kv:Nat->KV
 mv:Nat->Option Mv
 sg:Nat->Nat->Option Sg
 id:Nat
 ep:Nat
def kV (l:List Chg):List aa:=l.flatMap λc=>[sv c.k,sv c.v,.bool c.g]
structure PA where
 cl:Nat
 db:Nat->Nat
 mb:Nat->Nat
 mp:Nat->Option Nat
 pv:Nat->aa
 cv:Nat->aa
 ld:Nat->ByteArray
 sm:Nat
 sP:Nat->Nat->Nat×Nat×Nat
def jw (A:PA) (s:St):Array aa:=
 #[.int .i64 s.hosts,.int .i64 (s.ow 0),ptr (some (A.db 0)),ptr (A.mp 0),.int .i64 (s.ow 1),ptr (some (A.db 1)),ptr (A.mp 1),.int .i64 (s.ow 2),ptr (some (A.db 2)),ptr (A.mp 2),.int .i64 (s.ow 3),ptr (some (A.db 3)),ptr (A.mp 3),.map (some A.sm),.int .i64 s.id,.int .i64 s.ep]
def qh (k:Nat) (pv cv:aa) (ld:ByteArray) (m:Mv):Array aa:=
 #[.int .i64 m.id,.int .i64 m.fr,.int .i64 m.to,pv,cv,.int .u8 m.kind,.int .i64 k,.int .i64 m.id,.int .i64 m.n,.string ld,sv m.sent,.int .i64 m.parts,.bool m.sealed]
def uz (w:ac) (v:aa) (l:KV):Prop:=za w 74 2 v l.length (flat l)
def qA (w:ac) (v:aa) (l:List Chg):Prop:=za w 87 3 v l.length (kV l)
def Eg (w:ac) (v:aa) (l:List Chg):Prop:=w.ownsRow 0 87 3 v l.length (kV l)
def lm (w:ac) (F:Nat->Prop) (A:PA) (i:Nat):Option Mv->Prop
 |none=>A.mp i=none/\(A.cv i).ownBlock=none
 |some m=>∃g,A.mp i=some g/\F g/\w.heap[g]?=some (.cells (qh i (A.pv i) (A.cv i) (A.ld i) m) 135 (0,0))/\uz w (A.pv i) m.ps/\qA w (A.cv i) m.cs/\(∀b,(A.pv i).ownBlock=some b->F b)/\∀b,(A.cv i).ownBlock=some b->F b
structure iO (w:ac) (sb db mb id next:Nat) (done:Bool) (kv:KV):Prop where
 s:w.heap[sb]?=some (.cells #[.int .i64 id,.int .i64 next,.pointer (some ⟨db,0,none⟩),.bool done] 157 (0,0))
 d:w.heap[db]?=some (.cells #[.map (some mb)] 142 (0,0))
 m:jv w mb kv
structure qM (w:ac) (F:Nat->Prop) (A:PA) (sg:Nat->Nat->Option Sg):Prop where
 f:F A.sm
 m:jY w A.sm λh k=>(sg h k).map λ_=>(A.sP h k).1
 e:∀h k x,h<4->k<4->sg h k=some x->(F (A.sP h k).1/\F (A.sP h k).2.1/\F (A.sP h k).2.2)/\iO w (A.sP h k).1 (A.sP h k).2.1 (A.sP h k).2.2 x.id x.next x.done x.kv
 i:∀h k a b,h<4->k<4->a<4->b<4->(sg h k).isSome=true->(sg a b).isSome=true->(A.sP h k).1=(A.sP a b).1\/(A.sP h k).2.2=(A.sP a b).2.2->h=a/\k=b
 n:∀h k,h<4->k<4->(sg h k).isSome=true->A.sm≠(A.sP h k).2.2/\∀i,i<4->A.mb i≠(A.sP h k).2.2
structure jo (w:ac) (F:Nat->Prop) (A:PA) (s:St):Prop where
 cl:F A.cl/\w.heap[A.cl]?=some (.cells (jw A s) 83 (0,0))
 db:∀i,i<4->F (A.db i)/\w.heap[A.db i]?=some (.cells #[.map (some (A.mb i))] 142 (0,0))
 mb:∀i,i<4->F (A.mb i)/\jv w (A.mb i) (s.kv i)
 mbi:∀i j,i<4->j<4->A.mb i=A.mb j->i=j
 mv:∀i,i<4->lm w F A i (s.mv i)
 mpi:∀i j g,i<4->j<4->A.mp i=some g->A.mp j=some g->i=j
 cvi:∀i j g,i<4->j<4->(A.cv i).ownBlock=some g->(A.cv j).ownBlock=some g->i=j
 stg:qM w F A s.sg
 smb:∀i,i<4->A.mb i≠A.sm
section
variable {w w':ac} {F F':Nat->Prop} {A:PA} {s:St}
theorem uz.block {v:aa} {l:KV} (h:uz w v l) (k:∀g,v.ownBlock=some g->w'.heap[g]?=w.heap[g]?):uz w' v l:=za.block h k
theorem qA.block {v:aa} {l:List Chg} (h:qA w v l) (k:∀g,v.ownBlock=some g->w'.heap[g]?=w.heap[g]?):qA w' v l:=za.block h k
theorem Eg.block {v:aa} {l:List Chg} (h:Eg w v l) (k:∀g,v.ownBlock=some g->w'.heap[g]?=w.heap[g]?):Eg w' v l:=jd h k
theorem lm.frame {m:Option Mv} (h:lm w F A i m) (k:∀b,F b->w'.heap[b]?=w.heap[b]?):lm w' F A i m:=by
 cases m with
 |none=>exact h
 |some m=>
  obtain⟨g,h1,h2,h3,h4,h5,h6,h7⟩:=h;exact⟨g,h1,h2,(k g h2).trans h3,h4.block λb hb=>k b (h6 b hb),h5.block λb hb=>k b (h7 b hb),h6,h7⟩
theorem lm.mono {m:Option Mv} (h:lm w F A i m) (k:∀b,F b->F' b):lm w F' A i m:=by
 cases m with
 |none=>exact h
 |some m=>
  obtain⟨g,h1,h2,h3,h4,h5,h6,h7⟩:=h;exact⟨g,h1,k _ h2,h3,h4,h5,λb hb=>k b (h6 b hb),λb hb=>k b (h7 b hb)⟩
theorem iO.block {sb id next:Nat} {done:Bool} {kv:KV} (h:iO w sb db mb id next done kv) (k:∀b,b=sb\/b=db\/b=mb->w'.heap[b]?=w.heap[b]?):iO w' sb db mb id next done kv:=⟨(k _ (.inl rfl)).trans h.s,(k _ (.inr (.inl rfl))).trans h.d,h.m.block (k _ (.inr (.inr rfl)))⟩
theorem qM.frame {sg:Nat->Nat->Option Sg} (h:qM w F A sg) (k:∀b,F b->w'.heap[b]?=w.heap[b]?) (hF:∀b,F b->F' b):qM w' F' A sg:=
 ⟨hF _ h.f,h.m.block (k _ h.f),λa b x ha hb hx=>by
  obtain⟨⟨h1,h2,h3⟩,h4⟩:=h.e a b x ha hb hx
  exact⟨⟨hF _ h1,hF _ h2,hF _ h3⟩,h4.block λq hq=>k q (by rcases hq with rfl|rfl|rfl<;>assumption)⟩,h.i,h.n⟩
theorem qM.keep {sg:Nat->Nat->Option Sg} {C:PA} (h:qM w F A sg) (kT:∀(b:Nat) (cur:Array aa) (ty:aw),w.heap[b]?=some (Obj.cells cur ty (0,0))->ty=157\/ty=142->w'.heap[b]?=w.heap[b]?)
  (kM:∀b,(∃es ck,w.heap[b]?=some (Obj.map es ck))->(b=A.sm\/∃x y,x<4/\y<4/\(sg x y).isSome=true/\b=(A.sP x y).2.2)->w'.heap[b]?=w.heap[b]?) (hF:∀b,F b->F' b) (e1:C.sm=A.sm) (e2:C.sP=A.sP) (e3:C.mb=A.mb):qM w' F' C sg:=by
 refine⟨e1▸hF _ h.f,?_,λa b x ha hb hx=>?_,by rw[e2];exact h.i,by rw[e1,e2,e3];exact h.n⟩
 ·rw[e1,e2];exact h.m.block (kM _ h.m.map (.inl rfl))
 ·rw[e2];obtain⟨⟨h1,h2,h3⟩,h4⟩:=h.e a b x ha hb hx;obtain⟨es,ck,fQ,_⟩:=h4.m;exact⟨⟨hF _ h1,hF _ h2,hF _ h3⟩,(kT _ _ _ h4.s (.inl rfl)).trans h4.s,(kT _ _ _ h4.d (.inr rfl)).trans h4.d,h4.m.block (kM _ ⟨es,ck,fQ⟩ (.inr ⟨a,b,ha,hb,by rw[hx];rfl,rfl⟩))⟩
theorem qM.lts {sg:Nat->Nat->Option Sg} (h:qM w F A sg):qM w (λb=>F b/\b<w.heap.size) A sg:=
 ⟨⟨h.f,h.m.lt⟩,h.m,λa b x ha hb hx=>by
  obtain⟨⟨h1,h2,h3⟩,h4⟩:=h.e a b x ha hb hx
  exact⟨⟨⟨h1,(yx h4.s).1⟩,⟨h2,(yx h4.d).1⟩,⟨h3,h4.m.lt⟩⟩,h4⟩,h.i,h.n⟩
theorem jo.frame (h:jo w F A s) (k:∀b,F b->w'.heap[b]?=w.heap[b]?):jo w' F A s:=
 ⟨⟨h.cl.1,(k _ h.cl.1).trans h.cl.2⟩,λi hi=>⟨(h.db i hi).1,(k _ (h.db i hi).1).trans (h.db i hi).2⟩,λi hi=>⟨(h.mb i hi).1,(h.mb i hi).2.block (k _ (h.mb i hi).1)⟩,h.mbi,λi hi=>(h.mv i hi).frame k,h.mpi,h.cvi,h.stg.frame k λ_ h=>h,h.smb⟩
theorem jo.mono (h:jo w F A s) (k:∀b,F b->F' b):jo w F' A s:=
 ⟨⟨k _ h.cl.1,h.cl.2⟩,λi hi=>⟨k _ (h.db i hi).1,(h.db i hi).2⟩,λi hi=>⟨k _ (h.mb i hi).1,(h.mb i hi).2⟩,h.mbi,λi hi=>(h.mv i hi).mono k,h.mpi,h.cvi,h.stg.frame (λ_ _=>rfl) k,h.smb⟩
theorem jo.clt (h:jo w F A s):A.cl<w.heap.size:=(yx h.cl.2).1
theorem lm.lt {m:Option Mv} (h:lm w F A i m):lm w (λb=>F b/\b<w.heap.size) A i m:=by
 cases m with
 |none=>exact h
 |some m=>
  obtain⟨g,h1,h2,h3,h4,h5,h6,h7⟩:=h;exact⟨g,h1,⟨h2,(yx h3).1⟩,h3,h4,h5,λb hb=>⟨h6 b hb,za.lt h4 hb⟩,λb hb=>⟨h7 b hb,za.lt h5 hb⟩⟩
theorem jo.lts (h:jo w F A s):jo w (λb=>F b/\b<w.heap.size) A s:=
 ⟨⟨⟨h.cl.1,h.clt⟩,h.cl.2⟩,λi hi=>⟨⟨(h.db i hi).1,(yx (h.db i hi).2).1⟩,(h.db i hi).2⟩,λi hi=>⟨⟨(h.mb i hi).1,(h.mb i hi).2.lt⟩,(h.mb i hi).2⟩,h.mbi,λi hi=>(h.mv i hi).lt,h.mpi,h.cvi,h.stg.lts,h.smb⟩
theorem jo.below (h:jo w F A s) (hb:aE w.heap.size w w'):jo w' F A s:=(h.lts.frame λb fQ=>hb.block b fQ.2).mono λ_ h=>h.1
theorem jo.cells (h:jo w F A s) (j:Nat) (v:aa) (hj:(jw A s)[j]?=some v):w.cell? ⟨A.cl,j,none⟩=some v/\w.frozen? ⟨A.cl,j,none⟩=false:=⟨by simp[aO,h.cl.2,hj],by simp[bu,h.cl.2]⟩
theorem Gm (A:PA) (s:St) (i:Nat) (hi:i<4):(jw A s)[1+i*3]?=some (.int .i64 (s.ow i))/\(jw A s)[1+i*3+1]?=some (ptr (some (A.db i)))/\(jw A s)[1+i*3+2]?=some (ptr (A.mp i)):=by
 match i,hi with
 |0,_|1,_|2,_|3,_=>exact⟨rfl,rfl,rfl⟩
theorem jo.part (h:jo w F A s) (i:Nat) (hi:i<4):rZ w A.cl i (A.db i) (A.mb i) (mpA (A.mp i)) (s.kv i):=by
 obtain⟨_,h2,h3⟩:=Gm A s i hi;exact⟨(h.cells _ _ h2).1,by rw[<-FL];exact(h.cells _ _ h3).1,by simp[aO,(h.db i hi).2],(h.mb i hi).2⟩
end
def jy:Bs->Bs->Nat
 |a::l,b::m=>if a=b then jy l m+1 else 0
 |_,_=>0
theorem Gh:∀(l m:Bs),jy l m<=l.length/\jy l m<=m.length
 |[],m=>by simp[jy]
 |a::l,[]=>by simp[jy]
 |a::l,b::m=>by
  unfold jy;have:=Gh l m;split
  ·simp;omega
  ·simp
theorem qpy {l m:Bs} (h1:n<l.length) (h2:n<m.length) (h:jy l m=n+jy (l.drop n) (m.drop n)):(l[n]=m[n]->jy l m=n+1+jy (l.drop (n+1)) (m.drop (n+1)))/\(l[n]≠m[n]->jy l m=n):=by
 rw[bk h1,bk h2,jy]at h;constructor
 ·intro e;rw[if_pos e]at h;omega
 ·intro e;rw[if_neg e]at h;omega
theorem qsd {l m:Bs} (h1:l.length<=n\/m.length<=n) (h:jy l m=n+jy (l.drop n) (m.drop n)):jy l m=n:=by
 have:jy (l.drop n) (m.drop n)=0:=by
  have:=Gh (l.drop n) (m.drop n);simp only[bz]at this;omega
 omega
section
variable {w:ac}
theorem q4m (a b:ByteArray) (ha:a.size<=140737488355328):aK prog 112 #[.string a,.string b] w λe w'=>e=.returned (.int .i64 (jy a.data.toList b.data.toList))/\aE w.heap.size w w':=by
 obtain⟨r,hr⟩:∃r,jy a.data.toList b.data.toList=r:=⟨_,rfl⟩
 rw[hr];have HR:=Hd hr;clear hr;obtain⟨mn,hmn,EW,G7,oV⟩:∃mn:Nat,(if b.size<a.size then(b.size:Int)else(a.size:Int))=mn/\mn<=a.size/\mn<=b.size/\(a.size<=mn\/b.size<=mn):=by
  by_cases h:b.size<a.size
  ·exact⟨b.size,by rw[if_pos h],by omega,by omega,.inr (ji _)⟩
  ·exact⟨a.size,by rw[if_neg h],by omega,by omega,.inl (ji _)⟩
 go_enter func112,ntmps112;go_wp2;go_loopw [5] (λi wr=>∃n:Nat,i=.int .i64 n/\n<=a.size/\Hid (r=n+jy (a.data.toList.drop n) (b.data.toList.drop n)/\aE w.heap.size w wr)) (λi _=>a.size-(intOf i).toNat);case atStart=>exact⟨0,rfl,xzl _,Hd ⟨by rw[<-HR.o];simp,zk _ _⟩⟩
 case round=>
  obtain⟨n,rfl,hn,HN⟩:=hrel;by_cases hx:n<mn
  ·have x1:n<a.size:=by omega
   have x2:n<b.size:=by omega
   have g1:decide (n<mn)=true:=xdt hx;have hd:=qpy (l:=a.data.toList) (m:=b.data.toList) (n:=n) (by simpa using x1) (by simpa using x2) (by rw[HR.o];exact HN.1);go_wp2;go_quiet (fail);have iE:=Hd (Below.drewN' HN.2 nq);generalize wr.drewN nq=V at iE⊢;by_cases he:(a[n]'x1).toNat=(b[n]'x2).toNat
   ·have i1:(((a[n]'x1).toNat:Int)==(b[n]'x2).toNat)=true:=by simp[he]
    have KF:a.data[n]=b.data[n]:=UInt8.toNat_inj.1 (by simpa[aF]using he);have HE:=Hd (HR.symm.trans (hd.1 (by simpa using KF)));clear hd he KF;go_wp2;go_roundw;case rel=>exact⟨n+1,by go_num,by omega,Hd ⟨HE.o,iE.o⟩⟩
    case measure=>simp[intOf]<;>omega
   ·have i1:(((a[n]'x1).toNat:Int)==(b[n]'x2).toNat)=false:=by
     simp;omega
    have HE:=Hd (HR.symm.trans (hd.2 (λh=>he (by
     have h:a.data[n]=b.data[n]:=by simpa using h
     simp[aF,h]))))
    clear hd he;go_wp2;go_ret;obtain rfl:=HE.o;exact⟨rfl,iE.o⟩
  ·have HE:=Hd (qsd (l:=a.data.toList) (m:=b.data.toList) (n:=n) (by simp;omega) (by rw[HR.o];exact HN.1));have g1:decide (n<mn)=false:=zu hx;go_wp2;go_quiet (fail);have iE:=Hd (Below.drewN' HN.2 nq);generalize wr.drewN nq=V at iE⊢;go_wp2;go_ret;obtain rfl:r=n:=HR.symm.trans HE.o;exact⟨rfl,iE.o⟩
def bsB (l:Bs):ByteArray:=⟨l.toArray⟩
theorem Cv (a b:Bs):bsB a++bsB b=bsB (a++b):=by
 apply ByteArray.ext;rw[bH];unfold bsB;apply di;simp
theorem tO (a:Bs):(bsB a).size=a.length:=by
 show a.toArray.size=_;simp
theorem U8 {b:ByteArray} {l:Bs} (h:b.data.toList=l):bsB l=b:=by
 subst h;rfl
theorem A9 (s:Bs) (h:s.length<16384):(ve s).length<=s.length+2:=by
 have:=y5 1 s.length (by simpa using h);unfold ve;rw[aA];omega
def xq (last k v:Bs):Bs:=vz (jy last k)++ve (k.drop (jy last k))++ve v
def yg (c:Chg):Bs:=if c.g then[2]++ve c.k else[1]++ve c.k++ve c.v
theorem Uh (last k v:Bs) (hl:last.length<=8) (hk:k.length<=8) (hv:v.length<=12):(xq last k v).length<=25:=by
 have h1:=y5 0 (jy last k) (by have:=(Gh last k).1;omega);have h2:=A9 (k.drop (jy last k)) (by simp;omega);have h3:=A9 v (by omega);simp only[bz]at h2;unfold xq;simp only[aA];omega
theorem Uf (c:Chg) (hk:c.k.length<=8) (hv:c.v.length<=12):(yg c).length<=25:=by
 have h2:=A9 c.k (by omega);have h3:=A9 c.v (by omega);unfold yg;split<;>simp only[aA,aV,cx]<;>omega
structure BpW (w:ac) (xb:Nat) (k v:ByteArray) (w':ac):Prop where
 c0:w'.cell? ⟨xb,0,none⟩=some (.string k)
 c1:w'.cell? ⟨xb,1,none⟩=some (.string v)
 b:aE w.heap.size w w'
theorem BpW.next {v:ByteArray} (h:BpW w xb k v w1) (hb:aE w1.heap.size w1 w2):BpW w xb k v w2:=
 ⟨(hb.cell (xbl w1 _ h.c0)).trans h.c0,(hb.cell (xbl w1 _ h.c1)).trans h.c1,h.b.trans (hb.mono h.b.size)⟩
theorem jjs {v:ByteArray} (h:A/\B/\Hid (BpW w xb k v w1)) (hn:n<=1000):
  aK prog 113 #[.int .i64 n] w1 λe w'=>e=.returned (.string (bsB (vz n)))/\BpW w xb k v w':=(AJ n (by omega)).mono λe w' h2=>⟨h2.1,h.2.2.out.next h2.2⟩
theorem I5 {v s:ByteArray} (h:A/\B/\Hid (BpW w xb k v w1)) (hs:s.size<=1000):
  aK prog 114 #[.string s] w1 λe w'=>e=.returned (.string (bsB (ve s.data.toList)))/\BpW w xb k v w':=(Ux s (by omega)).mono λe w' h2=>⟨h2.1,h.2.2.out.next h2.2⟩
theorem Za (lk lv k v:ByteArray) (oW:lk.size<=8) (hk:k.size<=8) (hv:v.size<=12):aK prog 111 #[.agg #[.string lk,.string lv],.agg #[.string k,.string v]] w λe w'=>e=.returned (.string (bsB (xq lk.data.toList k.data.toList v.data.toList)))/\aE w.heap.size w w':=by
 obtain⟨n,hn⟩:∃n,jy lk.data.toList k.data.toList=n:=⟨_,rfl⟩
 have hle:=Gh lk.data.toList k.data.toList;rw[hn]at hle;have hnk:n<=k.size:=by simpa using hle.2
 have HS:=Hd (λw=>q4m (w:=w) lk k (by omega));rw[hn]at HS;have Oo:(k.extract n k.size).data.toList=k.data.toList.drop n:=by
  simp;exact aI (by simp)
 have h2:=A9 (k.data.toList.drop n) (by simp;omega);have h3:=A9 v.data.toList (by simp;omega);have z1:(bsB (vz n)).size<=9:=by rw[tO];exact xlt (y5 8 n (by omega)) (by omega)
 have z2:(bsB (ve (k.extract n k.size).data.toList)).size<=20:=by rw[tO,Oo];simp at h2;omega
 have z3:(bsB (ve v.data.toList)).size<=20:=by rw[tO];simp at h3;omega
 have BA:bsB (vz n)++bsB (ve (k.extract n k.size).data.toList)++bsB (ve v.data.toList)=bsB (xq lk.data.toList k.data.toList v.data.toList):=by
  unfold xq;rw[hn,Oo,Cv,Cv]
 have Ie:=Hd BA;have HZ:Hid (n<=1000/\(k.extract n k.size).size<=1000/\v.size<=1000):=Hd ⟨by omega,by simp;omega,by omega⟩;clear hn hle Oo h2 h3 BA;generalize bsB (xq lk.data.toList k.data.toList v.data.toList)=rb at*;have HNU:=Hd (λ(w1:ac) (A B:Prop) (h:A/\B/\Hid (BpW w (w.heap.size+1) k v w1))=>jjs h HZ.1);have K6:=Hd (λ(w1:ac) (A B:Prop) (h:A/\B/\Hid (BpW w (w.heap.size+1) k v w1))=>I5 h HZ.2.1);have O7:=Hd (λ(w1:ac) (A B:Prop) (h:A/\B/\Hid (BpW w (w.heap.size+1) k v w1))=>I5 h HZ.2.2);generalize bsB (vz n)=nb at*;generalize bsB (ve (k.extract n k.size).data.toList)=t1 at*;generalize bsB (ve v.data.toList)=t2 at*;have y1:¬9223372036854775807<nb.size+t1.size:=by omega
 have y2:¬9223372036854775807<nb.size+t1.size+t2.size:=by omega
 go_enter func111,ntmps111;go_wp2_with (go_at_call 112;refine(HS.o _).mono ?_;rintro e w1 ⟨rfl,h1⟩;have H1:=Hd ((BpW.mk (w:=w) (xb:=w.heap.size+1) (k:=k) (v:=v) (by go_simp) (by go_simp) (((zk _ _).alloc (ji _) _).alloc (by simp) _)).next h1);obtain⟨c0,c1,_⟩:=H1.o;clear h1)
 go_region_held3 (λw'=>w'.cell? ⟨w.heap.size+1,0,none⟩=some (.string k)/\w'.cell? ⟨w.heap.size+1,1,none⟩=some (.string v)/\Hid (BpW w (w.heap.size+1) k v w'))
  (first|exact⟨c0,c1,Hd ⟨c0,c1,H1.b.drew⟩⟩|exact⟨H4.c0,H4.c1,H4⟩|exact⟨H3.c0,H3.c1,H3⟩|exact⟨H2.c0,H2.c1,H2⟩)
  (first
   |(go_at_call 113;refine(HNU.o _ _ _ (by assumption)).mono ?_;rintro e w2 ⟨rfl,h2⟩;have H2:=Hd h2;clear h2)
   |(go_at_call 114;refine(K6.o _ _ _ (by assumption)).mono ?_;rintro e w3 ⟨rfl,h3⟩;have H3:=Hd h3;clear h3)
   |(go_at_call 114;refine(O7.o _ _ _ (by assumption)).mono ?_;rintro e w4 ⟨rfl,h4⟩;have H4:=Hd h4;clear h4))
 all_goals
  go_wp2;go_ret;rw[<-Ie.o];exact⟨rfl,H4.b⟩
theorem Y4 (lk lv:ByteArray) (lg:Bool) (k v:ByteArray) (g:Bool) (hk:k.size<=8) (hv:v.size<=12):aK prog 116 #[.agg #[.string lk,.string lv,.bool lg],.agg #[.string k,.string v,.bool g]] w λe w'=>e=.returned (.string (bsB (yg ⟨k.data.toList,v.data.toList,g⟩)))/\aE w.heap.size w w':=by
 have h2:=A9 k.data.toList (by simp;omega);have h3:=A9 v.data.toList (by simp;omega);have z2:(bsB (ve k.data.toList)).size<=20:=by rw[tO];simp at h2;omega
 have z3:(bsB (ve v.data.toList)).size<=20:=by rw[tO];simp at h3;omega
 have HZ:Hid (k.size<=1000/\v.size<=1000):=Hd ⟨by omega,by omega⟩;have K6:=Hd (λ(w1:ac) (A B:Prop) (h:A/\B/\Hid (BpW w (w.heap.size+1) k v w1))=>I5 h HZ.1);have O7:=Hd (λ(w1:ac) (A B:Prop) (h:A/\B/\Hid (BpW w (w.heap.size+1) k v w1))=>I5 h HZ.2);have HB:Hid (BpW w (w.heap.size+1) k v ((w.alloc (.cells #[.string lk,.string lv,.bool lg] 87)).alloc (.cells #[.string k,.string v,.bool g] 87))):=Hd (BpW.mk (by go_simp) (by go_simp) (((zk _ _).alloc (ji _) _).alloc (by simp) _));cases g
 ·have BA:(⟨#[1]⟩:ByteArray)++bsB (ve k.data.toList)++bsB (ve v.data.toList)=bsB (yg ⟨k.data.toList,v.data.toList,false⟩):=by
   unfold yg;rw[if_neg (λh=>by cases h),<-Cv,<-Cv];rfl
  have Ie:=Hd BA;clear h2 h3 BA;generalize bsB (yg ⟨k.data.toList,v.data.toList,false⟩)=rb at*;generalize bsB (ve k.data.toList)=t1 at*;generalize bsB (ve v.data.toList)=t2 at*;have y1:¬9223372036854775807<1+t1.size:=by omega
  have y2:¬9223372036854775807<1+t1.size+t2.size:=by omega
  go_enter func116,ntmps116;go_wp2;obtain⟨X,hX⟩:∃X,(w.alloc (.cells #[.string lk,.string lv,.bool lg] 87)).alloc (.cells #[.string k,.string v,.bool false] 87)=X:=⟨_,rfl⟩
  rw[hX]at HB⊢;clear hX;obtain⟨c0,c1,_⟩:=HB.o;go_region_held3 (λw'=>w'.cell? ⟨w.heap.size+1,0,none⟩=some (.string k)/\w'.cell? ⟨w.heap.size+1,1,none⟩=some (.string v)/\Hid (BpW w (w.heap.size+1) k v w'))
   (first|exact⟨c0,c1,Hd ⟨c0,c1,HB.b.drew⟩⟩|exact⟨H4.c0,H4.c1,H4⟩|exact⟨H3.c0,H3.c1,H3⟩)
   (first
    |(go_at_call 114;refine(K6.o _ _ _ (by assumption)).mono ?_;rintro e w3 ⟨rfl,h3⟩;have H3:=Hd h3;clear h3)
    |(go_at_call 114;refine(O7.o _ _ _ (by assumption)).mono ?_;rintro e w4 ⟨rfl,h4⟩;have H4:=Hd h4;clear h4))
  all_goals
   go_wp2;go_ret;rw[<-Ie.o];exact⟨rfl,H4.b⟩
 ·have BA:(⟨#[2]⟩:ByteArray)++bsB (ve k.data.toList)=bsB (yg ⟨k.data.toList,v.data.toList,true⟩):=by
   unfold yg;rw[if_pos rfl,<-Cv];rfl
  have Ie:=Hd BA;clear h2 h3 BA;generalize bsB (yg ⟨k.data.toList,v.data.toList,true⟩)=rb at*;generalize bsB (ve k.data.toList)=t1 at*;have y1:¬9223372036854775807<1+t1.size:=by omega
  go_enter func116,ntmps116;go_wp2_with (go_at_call 114;refine(K6.o _ _ _ (bO True.intro (bO True.intro HB))).mono ?_;rintro e w3 ⟨rfl,h3⟩;have H3:=Hd h3;clear h3)
  go_ret;rw[<-Ie.o];exact⟨rfl,H3.b⟩
end
def iL:Bs->Bool->UInt8×Bs×Bool
 |[],_=>(0,[],true)
 |b::r,bad=>(b,r,bad)
def iA:Nat->Bool->Nat->Nat->Bs->Bool->Nat×Bs×Bool
 |0,_,_,_,_,_=>(0,[],true)
 |k+1,first,a,m,s,bad=>if !first&&(iL s bad).1.toNat==0 then(0,[],true)else if(iL s bad).1.toNat<128 then(a+(iL s bad).1.toNat%128*m,(iL s bad).2)else iA k false (a+(iL s bad).1.toNat%128*m) (m*128) (iL s bad).2.1 (iL s bad).2.2
def takeC (n:Nat) (l:Bs) (bad:Bool):Bs×Bs×Bool:=if l.length<n then([],[],true)else(l.take n,l.drop n,bad)
theorem Cz:∀(k:Nat) (first:Bool) (a m:Nat) (s:Bs),match nX k first a m s with
  |some p=>iA k first a m s false=(p.1,p.2,false)
  |none=>(iA k first a m s false).2=([],true)
 |0,_,_,_,_=>rfl
 |k+1,first,a,m,[]=>by
  show(iA (k+1) first a m [] false).2=([],true);cases first<;>rfl
 |k+1,first,a,m,b::s=>by
  have ih:=Cz k false (a+b.toNat%128*m) (m*128) s;rw[nX];have e:(iL (b::s) false)=(b,s,false):=rfl;have e2:iA (k+1) first a m (b::s) false=if !first&&b.toNat==0 then(0,[],true)else if b.toNat<128 then(a+b.toNat%128*m,(s,false))else iA k false (a+b.toNat%128*m) (m*128) s false:=rfl
  rw[e2];by_cases h1:(!first&&b.toNat==0)=true
  ·rw[if_pos h1,if_pos h1]
  ·rw[if_neg h1,if_neg h1];by_cases h2:b.toNat<128
   ·rw[if_pos h2,if_pos h2,Nat.mod_eq_of_lt h2]
   ·rw[if_neg h2,if_neg h2];exact ih
def lI (w:ac) (cb:Nat) (l:Bs) (bad:Bool):Prop:=w.heap[cb]?=some (.cells #[sv l,.bool bad] 212 (0,0))
theorem qp (l:Bs):∃s:ByteArray,s.data.toList=l:=⟨⟨l.toArray⟩,by simp⟩
theorem vP {s:ByteArray} {l:Bs} (h:s.data.toList=l):s.size=l.length:=by rw[<-h];simp
theorem ext_list (s:ByteArray) (i j:Nat):(s.extract i j).data.toList=(s.data.toList.take j).drop i:=by
 rw[ByteArray.data_extract,Array.toList_extract];simp[List.drop_take]
section
variable {w w':ac} {cb:Nat} {l:Bs} {bad:Bool}
theorem lI.cells {s:ByteArray} (h:lI w cb l bad) (hs:s.data.toList=l):w.cell? ⟨cb,0,none⟩=some (.string s)/\w.cell? ⟨cb,1,none⟩=some (.bool bad)/\w.frozen? ⟨cb,0,none⟩=false/\w.frozen? ⟨cb,1,none⟩=false:=by
 unfold lI at h;rw[jf hs]at h;exact⟨by simp[aO,h],by simp[aO,h],by simp[bu,h],by simp[bu,h]⟩
def yQ (w:ac) (cb:Nat) (v:aa) (r:Bs×Bool) (e:cP) (w':ac):Prop:=e=.returned v/\lI w' cb r.1 r.2/\But (· =cb) w w'
theorem lI.rest {r:Bs} {s:ByteArray} (h:lI w cb l bad) (hs:s.data.toList=r):lI (w.setCell ⟨cb,0,none⟩ (.string s)) cb r bad/\But (· =cb) w (w.setCell ⟨cb,0,none⟩ (.string s)):=by
 have k:=xhs w cb 0 _ _ (.string s) h;exact⟨by unfold lI;rw[k,jf hs];rfl,But.setCell (B:=(· =cb)) (But.refl _ _) rfl _ _⟩
theorem lI.fail (h:lI w cb l bad):lI ((w.setCell ⟨cb,1,none⟩ (.bool true)).setCell ⟨cb,0,none⟩ (.string ⟨#[]⟩)) cb [] true/\But (· =cb) w ((w.setCell ⟨cb,1,none⟩ (.bool true)).setCell ⟨cb,0,none⟩ (.string ⟨#[]⟩)):=by
 have k1:=xhs w cb 1 _ _ (.bool true) h;have k2:=xhs _ cb 0 _ _ (.string ⟨#[]⟩) k1;exact⟨k2.trans rfl,But.setCell (B:=(· =cb)) (But.setCell (B:=(· =cb)) (But.refl _ _) rfl _ _) rfl _ _⟩
theorem IZ (h:lI w cb l bad):aK prog 138 #[.pointer (some ⟨cb,0,none⟩)] w (yQ w cb (.tuple #[]) ([],true)):=by
 obtain⟨s,hs⟩:=qp l;obtain⟨c0,c1,f0,f1⟩:=h.cells hs;have HK:=Hd h.fail;clear h hs;go_enter func138,ntmps138;go_wp2;go_end0;exact⟨rfl,HK.o⟩
theorem FT (h:lI w cb l bad):aK prog 127 #[.pointer (some ⟨cb,0,none⟩)] w (yQ w cb (.int .u8 (iL l bad).1.toNat) (iL l bad).2):=by
 obtain⟨s,hs⟩:=qp l;obtain⟨c0,c1,f0,f1⟩:=h.cells hs;have hl:=vP hs;cases l with
 |nil=>
  have he:s.toList.isEmpty=true:=by rw[toList_nil (by simpa using hl)];rfl
  have HC:=Hd (IZ h);clear h hs hl;go_enter func127,ntmps127;go_wp2_with (go_at_call 138;refine HC.mono ?_;rintro e w1 ⟨rfl,h1⟩;have H1:=Hd h1;clear h1)
  go_ret;exact⟨rfl,H1.o⟩
 |cons b r=>
  simp at hl;have hz:0<s.size:=by omega
  have he:s.toList.isEmpty=false:=JB hz;have h0:(s[0]'hz)=b:=by
   have h1:s[0]'hz=s.data.toList[0]'(by rw[hs];simp):=by simp[aF]
   rw[h1];simp[hs]
  have hr:(s.extract 1 s.size).data.toList=r:=by
   rw[ext_list,aI (by simp),hs];rfl
  have HR:=Hd (h.rest hr);have hz1:((1:Int)<=s.size):=by omega
  clear h hs hr hl;go_enter func127,ntmps127;go_wp2;go_ret;exact⟨rfl,HR.o⟩
theorem q53 (h:lI w cb l bad) (n:Nat):aK prog 139 #[.pointer (some ⟨cb,0,none⟩),.int .i64 n] w (yQ w cb (sv (takeC n l bad).1) (takeC n l bad).2):=by
 obtain⟨s,hs⟩:=qp l;obtain⟨c0,c1,f0,f1⟩:=h.cells hs;have hz:=vP hs;by_cases dY:l.length<n
 ·rw[show takeC n l bad=([],[],true)from if_pos dY];have g1:decide ((s.size:Int)<n)=true:=xdt (by omega);have HC:=Hd (IZ h);clear h hs;go_enter func139,ntmps139;go_wp2_with (go_at_call 138;refine HC.mono ?_;rintro e w1 ⟨rfl,h1⟩;have H1:=Hd h1;clear h1)
  go_ret;exact⟨rfl,H1.o⟩
 ·rw[show takeC n l bad=(l.take n,l.drop n,bad)from if_neg dY];have g1:decide ((s.size:Int)<n)=false:=zu (by omega);have hr:(s.extract n s.size).data.toList=l.drop n:=by
   rw[ext_list,aI (by simp),hs]
  have HR:=Hd (h.rest hr);have HV:Hid (sv (l.take n)=.string (s.extract 0 n)):=Hd (jf (by rw[ext_list,hs];rfl));have Wp:((n:Int)<=s.size):=by omega
  have Kz:n<=s.size:=by omega
  rw[show(l.take n,l.drop n,bad).1=l.take n from rfl,HV.o];clear h hs hr hz dY;go_enter func139,ntmps139;go_wp2;go_ret;exact⟨rfl,HR.o⟩
structure Fz (w:ac) (cb:Nat) (l0:Bs) (Aw:Bool) (j a:Nat) (wr:ac):Prop where
 b:∃l bad,lI wr cb l bad/\iA 4 true 0 1 l0 Aw=iA (4-j) (j==0) a (128^j) l bad
 a:a<128^j
 but:But (· =cb) w wr
theorem jes {a:Nat} (j:Nat) (h:a<128^j) (hm:m=128^j):a|||(b*m)=a+b*m:=by
 have e:128^j=2^(7*j):=by rw[Nat.pow_mul]
 rw[hm,e,Nat.or_comm,<-Nat.shiftLeft_eq,Nat.add_comm];exact(Nat.shiftLeft_add_eq_or_of_lt (by rw[<-e];exact h) b).symm
theorem jd1 {a c:Nat} (hj:j<4) (ha:a<128^j) (hc:c<256):bits .or .i64 (a:Int) (wrap64 (wrap64 (bits .and .u8 (c:Int) 127)*2^(7*j)))=((a+c%128*128^j:Nat):Int):=by
 have e1:=u8_and_nat c 127 hc (by decide);rw[show((127:Nat):Int)=127 from rfl,show c&&&127=c%128 from Nat.and_two_pow_sub_one_eq_mod c 7]at e1;have hp:128^j<=128^3:=bd (by decide) (by omega);have hm:c%128*128^j<=127*128^3:=Nat.mul_le_mul (by omega) hp;have e2:((2:Int)^(7*j))=((128^j:Nat):Int):=by rw[Int.pow_mul];simp
 have e3:wrap64 ((c%128:Nat):Int)=((c%128:Nat):Int):=by unfold wrap64;omega
 have e4:wrap64 (((c%128*128^j:Nat)):Int)=((c%128*128^j:Nat):Int):=by unfold wrap64;omega
 rw[e1,e3,e2,<-Int.natCast_mul,e4,qt8 a _ (by omega) (by omega),jes j ha rfl]
theorem Fz.step {w0 w2:ac} {l0 l1:Bs} {Aw nS:Bool} {j a:Nat} (h:Fz w0 cb l0 Aw j a w) (hj:j<4) (he:iA 4 true 0 1 l0 Aw=iA (4-j) (j==0) a (128^j) l1 nS) (h1:lI w2 cb (iL l1 nS).2.1 (iL l1 nS).2.2/\But (· =cb) w w2):
  (0<j->(iL l1 nS).1.toNat=0->iA 4 true 0 1 l0 Aw=(0,[],true))/\(¬(0<j/\(iL l1 nS).1.toNat=0)->(iL l1 nS).1.toNat<128->iA 4 true 0 1 l0 Aw=(a+(iL l1 nS).1.toNat%128*128^j,(iL l1 nS).2))/\(128<=(iL l1 nS).1.toNat->Fz w0 cb l0 Aw (j+1) (a+(iL l1 nS).1.toNat%128*128^j) w2):=by
 obtain⟨q,hq⟩:∃q,4-j=q+1:=⟨3-j,by omega⟩
 have Kv:4-(j+1)=q:=by omega
 obtain⟨X,hX⟩:∃X,iA 4 true 0 1 l0 Aw=X:=⟨_,rfl⟩
 rw[hX]at he⊢;rw[hq,iA]at he;refine⟨λBq hc=>?_,λhn hc=>?_,λhc=>⟨⟨_,_,h1.1,?_⟩,?_,h.but.trans h1.2⟩⟩
 ·rw[he,if_pos (by rw[hc];simp;omega)]
 ·rw[he,if_neg (by simp only[ae,ce,beq_eq_false_iff_ne,beq_iff_eq];omega),if_pos hc]
 ·rw[hX,he,if_neg (by simp only[ae,ce,beq_eq_false_iff_ne,beq_iff_eq];omega),if_neg (by omega),Kv,aH];rfl
 ·have:=h.a;have h2:(iL l1 nS).1.toNat%128*128^j<=127*128^j:=aL _ (by omega);rw[aH];omega
theorem Cu (h:lI w cb l bad):aK prog 128 #[.pointer (some ⟨cb,0,none⟩)] w (yQ w cb (.int .i64 (iA 4 true 0 1 l bad).1) (iA 4 true 0 1 l bad).2):=by
 have HS:Hid (Fz w cb l bad 0 0 w):=Hd ⟨⟨l,bad,h,rfl⟩,by decide,But.refl _ _⟩;clear h;go_enter func128,ntmps128;go_wp2;go_loopw [3,4] (λn k wr=>∃j a:Nat,j<=4/\n=.int .i64 a/\k=.int .i64 (7*j:Nat)/\Hid (Fz w cb l bad j a wr)) (λ_ k _=>28-(intOf k).toNat);case atStart=>exact⟨0,0,by omega,rfl,rfl,HS⟩
 case round=>
  obtain⟨j,a,hj,rfl,rfl,HR⟩:=hrel;obtain⟨l1,nS,h1,h2⟩:=HR.b;have qI:=Hd h1;have HE:=Hd h2;clear h1 h2;by_cases zR:j<4
  ·have HB:=Hd (FT qI.o);have eo:=jd1 zR HR.a (uK (iL l1 nS).1);obtain⟨c,hc⟩:∃c,(iL l1 nS).1.toNat=c:=⟨_,rfl⟩
   have HT:=Hd (λw2 h=>HR.step (w2:=w2) zR HE.o h);rw[hc]at HB HT eo;clear hc;go_wp2_with (first
    |(go_at_call 127;refine HB.mono ?_;rintro e w1 ⟨rfl,h1⟩;have H1:=Hd h1;clear h1)
    |(go_at_call 138;refine(IZ H1.1).mono ?_;rintro e w2 ⟨rfl,h2⟩;have H2:=Hd h2;clear h2))
   ·rename_i z1 z2;go_ret;rw[yQ,(HT.o _ H1.o).1 (by omega) (by simpa using z2)];exact⟨rfl,H2.1,HR.but.trans (H1.2.trans H2.2)⟩
   ·rename_i z1 z2 z3;go_ret;rw[yQ,(HT.o _ H1.o).2.1 (λe=>by have:=e.2;simp[this]at z2) (by omega)];exact⟨by simp,H1.1,HR.but.trans H1.2⟩
   ·go_roundw;case rel=>exact⟨j+1,_,by omega,by simp,by go_num,Hd ((HT.o _ H1.o).2.2 (by omega))⟩
    case measure=>simp[intOf];omega
   ·rename_i z2 z3;go_ret;rw[yQ,(HT.o _ H1.o).2.1 (by omega) (by omega)];exact⟨by simp,H1.1,HR.but.trans H1.2⟩
   ·go_roundw;case rel=>exact⟨j+1,_,by omega,by simp,by go_num,Hd ((HT.o _ H1.o).2.2 (by omega))⟩
    case measure=>simp[intOf];omega
  ·obtain rfl:j=4:=by omega
   go_wp2_with (go_at_call 138;refine(IZ qI.o).mono ?_;rintro e w2 ⟨rfl,h2⟩;have H2:=Hd h2;clear h2)
   go_ret;exact⟨by rw[HE.o];rfl,by rw[HE.o];exact H2.1,HR.but.trans H2.2⟩
def lD (l:Bs) (bad:Bool):Bs×Bs×Bool:=takeC (iA 4 true 0 1 l bad).1 (iA 4 true 0 1 l bad).2.1 (iA 4 true 0 1 l bad).2.2
theorem Sy (l:Bs) (bad:Bool):(iL l bad).2.1.length<=l.length:=by
 cases l with
 |nil=>exact ji _
 |cons b r=>exact Nat.le_succ _
theorem ED:∀(k:Nat) (first:Bool) (a m:Nat) (l:Bs) (bad:Bool),(iA k first a m l bad).2.1.length<=l.length
 |0,_,_,_,_,_=>xzl _
 |k+1,first,a,m,l,bad=>by
  have h:=Sy l bad;rw[iA];split
  ·exact xzl _
  ·split
   ·exact h
   ·exact xlt (ED ..) h
theorem Mf:∀(k:Nat) (first:Bool) (a m:Nat) (l:Bs) (bad:Bool),(iA k first a m l bad).1+m<=a+m*128^k
 |0,_,a,m,_,_=>by show 0+m<=a+m*128^0;omega
 |k+1,first,a,m,l,bad=>by
  have hp:m*128<=m*128^(k+1):=Nat.mul_le_mul_left _ (by rw[aH];have:0<128^k:=Nat.pow_pos (by decide);omega);have hb:(iL l bad).1.toNat%128*m<=127*m:=aL _ (by omega);rw[iA];split
  ·show 0+m<=_;omega
  ·split
   ·show a+(iL l bad).1.toNat%128*m+m<=_;omega
   ·have h:=Mf k false (a+(iL l bad).1.toNat%128*m) (m*128) (iL l bad).2.1 (iL l bad).2.2;have e:m*128*128^k=m*128^(k+1):=by rw[aH,Nat.mul_comm (128^k),Nat.mul_assoc]
    rw[e]at h;omega
theorem yO (h:lI w cb l bad):aK prog 129 #[.pointer (some ⟨cb,0,none⟩)] w (yQ w cb (sv (lD l bad).1) (lD l bad).2):=by
 have HN:=Hd (Cu h);unfold lD;obtain⟨X,hX⟩:∃X,iA 4 true 0 1 l bad=X:=⟨_,rfl⟩
 rw[hX]at HN⊢;clear h hX;obtain⟨n,l1,nS⟩:=X;have HT:=Hd (λw1 (h1:lI w1 cb l1 nS)=>q53 h1 n);obtain⟨Y,hY⟩:∃Y,takeC n l1 nS=Y:=⟨_,rfl⟩
 show aK _ _ _ _ (yQ w cb (sv (takeC n l1 nS).1) (takeC n l1 nS).2);rw[hY]at HT⊢;clear hY;obtain⟨s,hs⟩:=qp Y.1;rw[jf hs]at HT⊢;clear hs;go_enter func129,ntmps129;go_wp2_with (first
  |(go_at_call 128;refine HN.mono ?_;rintro e w1 ⟨rfl,h1⟩;have H1:=Hd h1;clear h1)
  |(go_at_call 139;refine(HT.o _ H1.1).mono ?_;rintro e w2 ⟨rfl,h2⟩;have H2:=Hd h2;clear h2))
 go_ret;exact⟨rfl,H2.1,H1.2.trans H2.2⟩
end
end Go.Proofs.YtkpekiajdlolnabGreat
