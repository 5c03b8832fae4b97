/- PROVED: part 5 of the claim's ground. Conditions: those that each theorem names. -/
import Derived.Test.YtkpekiajdlolnaaGreatM04
import Derived.Deep.WholeRow
import Derived.Deep.RegionHeld3
import Derived.Deep.RegionLaw
import Derived.Test.YtkpekiajdlolnaaGreatM03
import Derived.Shelf.SlIter.Nil
import Derived.Shelf.SortM.Plain
import Derived.Shelf.SortM.SortNone
import Derived.Ground.GgzProg
import Derived.Ground.SlgmProg
import Derived.Sort.KeysCollected
import Derived.Sort.Walk0
import Derived.Deep.RegionWith
import Derived.Carry
set_option linter.unusedVariables false
set_option linter.unusedSimpArgs false
set_option maxRecDepth 100000
set_option maxHeartbeats 16000000
variable{K:Go.Act->Go.World->Prop} {L X:Go.Proofs.YtkpekiajdlolnaaGreat.KV} {Q:Go.Exit->Go.Act->Go.World->Prop} {a:Go.Act} {e:Go.Operand->Go.Value} {g h i j mb n pb:Nat} {l:Go.Proofs.YtkpekiajdlolnaaGreat.Bs} {ld:ByteArray} {o:Go.Oper} {p:Go.Operand} {pv:Go.Value} {t:Array Go.Value} {to:Int} {w w' w0 w1 w2 w3 wA:Go.World}
open Go.Proofs.Tryz
open Go renaming Value→aa,World→ac,execOp→aq,heap_alloc_old→aI,getD_set_ne→aJ,Calls→aK,wp_region_still_tail→aN,Operand→aO,TypeId→aS,maxLen→aU,undef→aX,heap_alloc_new→bu,bytesBefore→bC,mem_ready→bH,run_convert_bytes_back→bJ,wpStill_nil→bO,Ending→cw,Frame→cK
open Go.World renaming cell?→ae,ownsRow_nil→bD,frozen?→bF
open List renaming take_succ_cons→ag,getD_eq_getElem?_getD→ao,length_append→aw,append_assoc→ay,all_eq_true→aD,range→aE,getElem?_eq_getElem→aF,length_cons→aG,length_take→aH,mem_of_getElem?→aL,mem_range→aM,getElem?_eq_some_iff→aP,drop_succ_cons→aR,take_succ_eq_append_getElem→aV,getElem?_map→bd,length_filter_le→bh,mem_of_mem_take→bj,eq_nil_of_length_eq_zero→bk,take_zero→bw,drop_zero→bz,getElem?_eq_none→bN,mem_cons→bQ,pairwise_cons→bR,take_length→bX,cons_append→bY,any_eq_true→ce,getElem_mem→cf,length_nil→cj,append_nil→cn,length_map→co
open Bool renaming and_eq_true→ah,true_and→cz
open Option renaming bind_some→ai,bind_eq_some_iff→aj,getD_some→bi,isNone_iff_eq_none→bB,isSome_iff_exists→bG,map_eq_some_iff→bI,map_some→bL
open And renaming intro→am
open Go.Region renaming ready→au,binds→aZ,wanted→cA
open Go.Obj renaming cells→ax
open Go.ByteArray renaming toList_eq→az
open Go.RowKit renaming Below→aA
open Go.Code renaming region→aC,wp→bT
open Array renaming getElem?_eq_getElem→aQ,all_eq_true_iff_forall_mem→aY,getD_eq_getD_getElem?→bo,getElem?_eq_none→bK,ext→bP,replicate→cq,getD→cy
open Nat renaming zero_add→aW,lt_of_le_of_lt→bp,reduceEqDiff→cg
open Go.Op renaming bytesLess→bg
open Go.Addr renaming add_lit→bm
open ByteArray renaming size→bq,size_append→bM
open Go.RowKit.Below renaming drew→br
open Int renaming toNat_natCast→bE,lt_or_le→bU
namespace Go.Proofs.YtkpekiajdlolnaaGreat
section
open Go.RowKit Go.Maps
def doL (L:KV) (c:Chg):KV:=if c.g then xu L c.k else kG L c.k c.v
theorem q3y (k v:Bs) (L:KV):(ins k v L).length=L.length+1:=by
 induction L with
 |nil=>rfl
 |cons p L ih=>rw[ins];split<;>simp[ih]
theorem QA (L:KV) (c:Chg):(doL L c).length<=L.length+1:=by
 unfold doL xu kG;split
 ·exact Nat.le_succ_of_le (bh _ _)
 ·rw[q3y];exact Nat.succ_le_succ (bh _ _)
theorem H7 {p:Bs×Bs} (h:vo l=some p):p.2.length<=l.length:=by
 have:=(AA l false).2;rwa [yR h]at this
theorem SH {p:Nat×Bs} (h:yh l=some p):p.2.length<l.length:=by
 cases l with
 |nil=>simp[yh,mX]at h
 |cons b l=>
  have:=Qs 0 1 b l false;rw[GN h]at this;exact Nat.lt_succ_of_le this
theorem QF (n:Nat):∀(k:Nat) (last l:Bs) (r:List Chg×Bs),wu n k last l=some r->(∀c∈r.1,iM n c.k c.v=true)/\r.1.length+r.2.length<=l.length
 |0,last,l,r,h=>by cases h;exact⟨by simp,by simp⟩
 |k+1,last,l,r,h=>by
  rw[wu]at h;obtain⟨p,h1,h⟩:=aj.1 h;split at h
  ·cases h
  ·obtain⟨t,h2,h⟩:=aj.1 h;obtain⟨v,h3,h⟩:=aj.1 h;split at h
   ·rename_i hf;obtain⟨q,h4,rfl⟩:=bI.1 h;obtain⟨a1,a2⟩:=QF n k _ _ q h4;simp only[ah]at hf;have:=SH h1;have:=H7 h2;have:=H7 h3;exact⟨λc hc=>by rcases bQ.1 hc with rfl|hc;exact hf.1;exact a1 c hc,by simp;omega⟩
   ·cases h
theorem QB (n:Nat):∀(k:Nat) (l:Bs) (r:List Chg×Bs),qG n k l=some r->(∀c∈r.1,iM n c.k c.v=true)/\r.1.length+r.2.length<=l.length
 |0,l,r,h=>by rw[qG]at h;cases h;exact⟨by simp,by simp⟩
 |k+1,[],r,h=>by simp[qG]at h
 |k+1,b::l,r,h=>by
  rw[qG]at h;split at h
  ·cases h
  ·obtain⟨t,h2,h⟩:=aj.1 h;obtain⟨v,h3,h⟩:=aj.1 h;have hv:v.2.length<=t.2.length:=by
    split at h3
    ·exact H7 h3
    ·cases h3;exact jd _
   split at h
   ·rename_i hf;obtain⟨q,h4,rfl⟩:=bI.1 h;obtain⟨a1,a2⟩:=QB n k _ q h4;have:=H7 h2;exact⟨λc hc=>by rcases bQ.1 hc with rfl|hc;exact hf;exact a1 c hc,by simp;omega⟩
   ·cases h
def mH (kind n:Nat) (l:Bs):Option (List Chg):=if kind=2 then unblock n l else uf n l
theorem KE {kind:Nat} {cs:List Chg} (h:mH kind n l=some cs):(∀c∈cs,iM n c.k c.v=true)/\cs.length<=l.length:=by
 have key:∀o:Option (List Chg×Bs),(∀r,o=some r->(∀c∈r.1,iM n c.k c.v=true)/\r.1.length+r.2.length<=l.length)->o.bind (whole [])=some cs->(∀c∈cs,iM n c.k c.v=true)/\cs.length<=l.length:=λo ho h=>by
  obtain⟨r,h1,h2⟩:=aj.1 h;unfold whole at h2;split at h2
  ·cases h2;obtain⟨a1,a2⟩:=ho r h1;exact⟨by simpa using a1,by simp;omega⟩
  ·cases h2
 unfold mH unblock uf at h;split at h;all_goals
  obtain⟨p,h1,h2⟩:=aj.1 h;have h3:=SH h1;refine key _ (λr hr=>?_) h2
 ·obtain⟨a1,a2⟩:=QF n _ _ _ r hr;exact⟨a1,by omega⟩
 ·obtain⟨a1,a2⟩:=QB n _ _ r hr;exact⟨a1,by omega⟩
section
variable {w w2:ac} {sb db mb id next:Nat} {done:Bool} {kv:KV}
theorem iB.lt (h:iB w sb db mb id next done kv):sb<w.heap.size/\db<w.heap.size/\mb<w.heap.size:=⟨(kg h.s).1,(kg h.d).1,h.m.lt⟩
theorem iB.idle (h:iB w sb db mb id next done kv) (hb:But (λ_=>False) w w2):iB w2 sb db mb id next done kv:=h.block λb eX=>hb.keep b (by have:=h.lt;omega) λx=>x
theorem iB.but (h:iB w sb db mb id next done kv) (hb:But (· =mb) w w2) (hm:jh w2 mb L):iB w2 sb db mb id next done L:=⟨(hb.keep _ h.lt.1 (za h.m h.s)).trans h.s,(hb.keep _ h.lt.2.1 (za h.m h.d)).trans h.d,hm⟩
theorem iB.cells (h:iB w sb db mb id next done kv):w.cell? ⟨sb,0,none⟩=some (.int .i64 id)/\w.cell? ⟨sb,1,none⟩=some (.int .i64 next)/\w.cell? ⟨sb,2,none⟩=some (.pointer (some ⟨db,0,none⟩))/\w.cell? ⟨sb,3,none⟩=some (.bool done)/\∀j,w.frozen? ⟨sb,j,none⟩=false:=
 ⟨by simp[ae,h.s],by simp[ae,h.s],by simp[ae,h.s],by simp[ae,h.s],λj=>by simp[bF,h.s]⟩
theorem iB.ne (h:iB w sb db mb id next done kv):sb≠db:=λe=>by
 have h1:=h.s;rw[e,h.d]at h1;have e2:=xoi h1;injection e2 with _ e3;exact absurd e3 (by decide)
theorem q8z (hd:w.cell? ⟨db,0,none⟩=some (.map (some mb))) (hm:jh w mb kv) (hL:kv.length<1073741823) (k v:ByteArray) (g:Bool) (hk:k.size<=aU):
  aK prog 67 #[.pointer (some ⟨db,0,none⟩),.agg #[.string k,.string v,.bool g]] w (J7 w mb (doL kv ⟨k.data.toList,v.data.toList,g⟩)):=by
 cases g
 ·exact Ef hd hm hL k v hk
 ·exact JZ hd hm k v hk
end
def kF (kd sh:Nat) (ld:Bs) (kv:KV):Bool×KV×Bool:=if kd=4 then(ld.isEmpty,kv,ld.isEmpty)else match mH kd sh ld with
 |none=>(false,kv,false)
 |some cs=>(true,cs.foldl doL kv,false)
structure TkW (w:ac) (sb db mb id next:Nat) (kv:KV) (v:aa) (cs:List Chg) (j:Nat) (wr:ac):Prop where
 s:iB wr sb db mb id next false ((cs.take j).foldl doL kv)
 r:Ce wr v cs
 b:But (· =mb) w wr
def Es (w:ac) (sb db mb id next:Nat) (r:Bool×KV×Bool) (e:cw) (w':ac):Prop:=e=.returned (.bool r.1)/\iB w' sb db mb id next r.2.2 r.2.1/\But (λb=>b=sb\/b=mb) w w'
theorem KT:∀(L:List Chg) (k:Nat) (c:Chg),L[k]?=some c->(jM L)[k*3]?=some (sv c.k)/\(jM L)[k*3+1]?=some (sv c.v)/\(jM L)[k*3+2]?=some (.bool c.g)
 |[],k,c,h=>by simp at h
 |a::L,0,c,h=>by simp at h;subst h;exact⟨rfl,rfl,rfl⟩
 |a::L,k+1,c,h=>by
  show(sv a.k::sv a.v::Value.bool a.g::jM L)[(k+1)*3]?=_/\(sv a.k::sv a.v::Value.bool a.g::jM L)[(k+1)*3+1]?=_/\(sv a.k::sv a.v::Value.bool a.g::jM L)[(k+1)*3+2]?=_;rw[show(k+1)*3=k*3+1+1+1 by omega];simpa using KT L k c (by simpa using h)
section
variable {w wr w2:ac} {sb db mb id next:Nat} {kv:KV} {v:aa} {cs:List Chg} {j:Nat}
theorem Xl (cs:List Chg) (kv:KV):(cs.foldl doL kv).length<=kv.length+cs.length:=by
 induction cs generalizing kv with
 |nil=>simp
 |cons c cs ih=>
  have h1:=ih (doL kv c);have h2:=QA kv c;simp only[List.foldl_cons,aG];omega
theorem TkW.below (h:TkW w sb db mb id next kv v cs j wr) (hb:aA wr.heap.size wr w2):TkW w sb db mb id next kv v cs j w2:=⟨h.s.idle (But.of_below hb),h.r.block λg hg=>hb.block g (World.ownsRow.lt h.r g hg).2,h.b.trans (But.of_below hb)⟩
theorem TkW.succ {c:Chg} (h:TkW w sb db mb id next kv v cs j wr) (hc:cs[j]?=some c) (hb:But (· =mb) wr w2) (hm:jh w2 mb (doL ((cs.take j).foldl doL kv) c)):TkW w sb db mb id next kv v cs (j+1) w2:=by
 obtain⟨hj,rfl⟩:=aP.1 hc;have e:(cs.take (j+1)).foldl doL kv=doL ((cs.take j).foldl doL kv) cs[j]:=by rw[aV hj,List.foldl_append];rfl
 refine⟨by rw[e];exact h.s.but hb hm,h.r.block λg hg=>hb.keep g (World.ownsRow.lt h.r g hg).2 ?_,h.b.trans hb⟩;obtain⟨cur,BQ⟩:=Ec h.r hg;exact za h.s.m BQ
theorem TkW.cells {c:Chg} {sa:Option Addr} {n cp:Nat} (h:TkW w sb db mb id next kv (.slice sa n cp) cs j wr) (hc:cs[j]?=some c):n=cs.length/\∃g,sa=some ⟨g,0,none⟩/\wr.cell? ⟨g,j*3,none⟩=some (sv c.k)/\wr.cell? ⟨g,j*3+1,none⟩=some (sv c.v)/\wr.cell? ⟨g,j*3+2,none⟩=some (.bool c.g):=by
 obtain⟨hj,_⟩:=aP.1 hc;have hr:=h.r;unfold Ce at hr;rcases hr.2 with⟨hv,hz⟩|⟨g,cap,cur,hv,_⟩
 ·omega
 ·injection hv with h1 h2 h3;subst h1 h2 h3;obtain⟨q1,q2,q3⟩:=KT cs j c hc;have d:=λi u hi=>hr.cells (g:=g) rfl i u hi;have d1:=d _ _ q1;have d2:=d _ _ q2;have d3:=d _ _ q3;rw[bm,aW]at d1 d2 d3;exact⟨rfl,g,rfl,d1,d2,d3⟩
theorem iB.fin {done:Bool} (h:iB w sb db mb id next done kv) (b:Bool):iB (w.setCell ⟨sb,3,none⟩ (.bool b)) sb db mb id next b kv/\But (λq=>q=sb\/q=mb) w (w.setCell ⟨sb,3,none⟩ (.bool b)):=by
 refine⟨⟨(xhs w sb 3 _ _ (.bool b) h.s).trans rfl,(xho w _ _ _ h.ne.symm).trans h.d,h.m.block (xho w _ _ _ λe=>za h.m h.s e.symm)⟩,But.setCell (But.refl _ _) (.inl rfl) _ _⟩
theorem ja7 (h:iB w sb db mb id next false kv) (kd sh fi fn:Nat) (ld:ByteArray) (pQ:kd=2\/kd=3\/kd=4) (hl:ld.size<=268435456) (kZ:kv.length<=268435456):
  aK prog 43 #[.pointer (some ⟨sb,0,none⟩),.agg #[.int .u8 kd,.int .i64 sh,.int .i64 fi,.int .i64 fn,.string ld]] w (Es w sb db mb id next (kF kd sh ld.data.toList kv)):=by
 by_cases h4:kd=4
 ·subst h4;have gM:ld.toList.isEmpty=ld.data.toList.isEmpty:=by rw[az]
  obtain⟨a0,a1,a2,a3,af⟩:=h.cells;have eB:=h.lt.1;unfold Es kF;rw[if_pos rfl];have HS:=Hd (λb=>h.fin b);clear h;cases he:ld.data.toList.isEmpty;all_goals
   rw[he]at gM;go_enter func43,ntmps43;go_wp2;go_ret;exact⟨rfl,(HS.o _).1.idle (But.of_below ((j5 _ _).alloc (jd _) _)),(HS.o _).2.trans (But.of_below ((j5 _ _).alloc (jd _) _))⟩
 ·have HH:=Hd h;obtain⟨f,hf⟩:∃f,mH kd sh ld.data.toList=f:=⟨_,rfl⟩
  have HC:∀w1:ac,aK prog (if kd=2 then 65 else 66) #[.int .i64 sh,.string ld] w1 (wH w1 f):=λw1=>by
   rw[<-hf];unfold mH;split
   ·exact Yg sh ld hl
   ·exact Yf sh ld hl
  have HO:∀cs,f=some cs->(∀c∈cs,iM sh c.k c.v=true)/\cs.length<=268435456:=λcs e=>by
   obtain⟨a1,a2⟩:=KE (hf.trans e);exact⟨a1,xlt a2 (by simpa using hl)⟩
  have VX:=Hd HO;unfold Es kF;rw[if_neg h4,hf];have Jt:=Hd HC;clear h hf HC HO;rcases pQ with rfl|rfl|rfl
  rotate_right
  ·exact absurd rfl h4
  all_goals
   first|rw[if_pos rfl]at Jt|rw[if_neg (by decide)]at Jt
   cases f with
   |none=>
    go_enter func43,ntmps43;go_wp2_with ((first|go_at_call 65|go_at_call 66);refine(Jt.o _).mono ?_;rintro e w1 ⟨⟨v,rfl⟩,h1⟩;have K1:=Hd (HH.idle (But.trans (But.of_below ((j5 _ _).alloc (jd _) _)) h1));have B1:=Hd h1;clear h1)
    go_ret;exact⟨rfl,K1.o,(But.of_below ((j5 _ _).alloc (jd _) _)).trans (B1.mono λ_ x=>x.elim)⟩
   |some cs=>
    go_enter func43,ntmps43;go_wp2_with ((first|go_at_call 65|go_at_call 66);refine(Jt.o _).mono ?_;rintro e w1 ⟨⟨v,rfl,r1,_⟩,h1⟩;obtain⟨sa,cp,hv⟩:=AB r1;rw[hv]at r1⊢;have K1:Hid (TkW w sb db mb id next kv (.slice sa cs.length cp) cs 0 w1):=Hd ⟨HH.idle (But.trans (But.of_below ((j5 _ _).alloc (jd _) _)) h1),r1,(But.of_below ((j5 _ _).alloc (jd _) _)).trans (h1.mono λ_ x=>x.elim)⟩;clear h1 r1 hv)
    go_loopw [46] (λi wr=>∃j:Nat,j<=cs.length/\i=.int .i64 j/\Hid (TkW w sb db mb id next kv (.slice sa cs.length cp) cs j wr)) (λi _=>cs.length-(intOf i).toNat);case atStart=>exact⟨0,xzl _,rfl,K1⟩
    case round=>
     obtain⟨j,hj,rfl,HK⟩:=hrel;have lY:cs.length<=268435456:=(VX.o cs rfl).2;by_cases jO:j<cs.length
     ·obtain⟨c,hc⟩:∃c,cs[j]?=some c:=⟨_,aF jO⟩
      obtain⟨_,g,rfl,d1,d2,d3⟩:=HK.cells hc;obtain⟨kb,iY⟩:=qh c.k;obtain⟨vb,nk⟩:=qh c.v;rw[jb iY]at d1;rw[jb nk]at d2;have HP:=Hd (HK.below ((j5 wr.heap.size wr).alloc (jd _) (.cells #[.string kb,.string vb,.bool c.g] 109)));have HD:∀w1,aA (wr.alloc (.cells #[.string kb,.string vb,.bool c.g] 109)).heap.size (wr.alloc (.cells #[.string kb,.string vb,.bool c.g] 109)) w1->aK prog 67 #[.pointer (some ⟨db,0,none⟩),.agg #[.string kb,.string vb,.bool c.g]] w1 λe w'=>e=.returned (.tuple #[])/\TkW w sb db mb id next kv (.slice (some ⟨g,0,none⟩) cs.length cp) cs (j+1) w':=λw1 hb=>by
       have hp:=HP.below hb;have hf:=Xl (cs.take j) kv;rw[aH]at hf;have hkf:=GV ((VX.o cs rfl).1 c (aL hc));refine(q8z (by simp[ae,hp.s.d]) hp.s.m (by omega) kb vb c.g (by rw[uh iY];unfold aU;omega)).mono λe w' ⟨e1,e2,e3⟩=>⟨e1,hp.succ hc e3 ?_⟩
       rw[iY,nk]at e2;exact e2
      have V5:=Hd HD;obtain⟨_,_,b2,_,_⟩:=HP.s.cells;clear HD hc iY nk;go_wp2;have x0:(wr.alloc (.cells #[.string kb,.string vb,.bool c.g] 109)).cell? ⟨wr.heap.size,0,none⟩=some (.string kb):=by go_simp
      have x1:(wr.alloc (.cells #[.string kb,.string vb,.bool c.g] 109)).cell? ⟨wr.heap.size,1,none⟩=some (.string vb):=by go_simp
      have x2:(wr.alloc (.cells #[.string kb,.string vb,.bool c.g] 109)).cell? ⟨wr.heap.size,2,none⟩=some (.bool c.g):=by go_simp
      obtain⟨wa,UU⟩:∃wa,wr.alloc (.cells #[.string kb,.string vb,.bool c.g] 109)=wa:=⟨_,rfl⟩
      rw[UU]at V5 b2 x0 x1 x2⊢;clear UU d1 d2 d3;go_region_with (go_at_call 67;refine(V5.o _ (by first|exact j5 _ _|exact(j5 _ _).drew)).mono ?_;rintro e w2 ⟨rfl,h2⟩;have H2:=Hd h2;clear h2)
      all_goals
       go_wp2;go_roundw;case rel=>exact⟨j+1,by omega,by go_num,H2⟩
       case measure=>simp[intOf]<;>omega
     ·obtain rfl:j=cs.length:=by omega
      have HE:Hid (iB wr sb db mb id next false (cs.foldl doL kv)):=Hd (by have:=HK.s;rwa [bX]at this);go_wp2;go_ret;exact⟨rfl,HE.o,HK.b.mono λ_ x=>.inr x⟩
end
end
section
theorem Tk:∀(l m:Bs),l.take (jk l m)=m.take (jk l m)
 |a::l,b::m=>by
  unfold jk;split
  ·rename_i e;rw[ag,ag,Tk l m,e]
  ·simp
 |[],m=>by simp[jk]
 |a::l,[]=>by simp[jk]
def rO:Bs->KV->Bs
 |_,[]=>[]
 |last,p::r=>yg last p.1 p.2++rO p.1 r
def qM:List Chg->Bs
 |[]=>[]
 |c::r=>zq c++qM r
def asC (l:KV):List Chg:=l.map λp=>⟨p.1,p.2,false⟩
theorem Ls:∀(l:KV) (last s:Bs) (n:Nat),∃j,j<=l.length/\o9 last l s n=(s++rO last (l.take j),n+j)/\(n=0->l≠[]->1<=j)/\(s.length<=39->(n=0->s=[])->last.length<=8->(∀p∈l,p.1.length<=8/\p.2.length<=12)->(s++rO last (l.take j)).length<=39)
 |[],last,s,n=>⟨0,jd _,by simp[o9,rO],λ_ h=>absurd rfl h,λh _ _ _=>by simpa[rO]using h⟩
 |p::r,last,s,n=>by
  rw[o9];by_cases h:0<n/\40<1+s.length+(yg last p.1 p.2).length
  ·rw[if_pos h];exact⟨0,xzl _,by simp[rO],λh0=>by omega,λh _ _ _=>by simpa[rO]using h⟩
  ·rw[if_neg h];obtain⟨j,h1,h2,h3,h4⟩:=Ls r p.1 (s++yg last p.1 p.2) (n+1);refine⟨j+1,by simpa using h1,?_,λ_ _=>by omega,λa1 a2 a3 a4=>?_⟩
   ·rw[h2,ag,rO,ay];simp;omega
   ·rw[ag,rO,<-ay];obtain⟨q1,q2⟩:=a4 p (.head _);have hp:=Tg last p.1 p.2 a3 q1 q2;refine h4 ?_ (λh=>by omega) q1 λx hx=>a4 x (.tail _ hx);rw[aw];by_cases h0:0<n
    ·have:=λx=>h ⟨h0,x⟩;omega
    ·rw[a2 (by omega)];simp;omega
theorem Lm:∀(l:List Chg) (s:Bs) (n:Nat),∃j,j<=l.length/\o8 l s n=(s++qM (l.take j),n+j)/\(n=0->l≠[]->1<=j)/\(s.length<=39->(n=0->s=[])->(∀p∈l,p.k.length<=8/\p.v.length<=12)->(s++qM (l.take j)).length<=39)
 |[],s,n=>⟨0,jd _,by simp[o8,qM],λ_ h=>absurd rfl h,λh _ _=>by simpa[qM]using h⟩
 |p::r,s,n=>by
  rw[o8];by_cases h:0<n/\40<1+s.length+(zq p).length
  ·rw[if_pos h];exact⟨0,xzl _,by simp[qM],λh0=>by omega,λh _ _=>by simpa[qM]using h⟩
  ·rw[if_neg h];obtain⟨j,h1,h2,h3,h4⟩:=Lm r (s++zq p) (n+1);refine⟨j+1,by simpa using h1,?_,λ_ _=>by omega,λa1 a2 a4=>?_⟩
   ·rw[h2,ag,qM,ay];simp;omega
   ·rw[ag,qM,<-ay];obtain⟨q1,q2⟩:=a4 p (.head _);have hp:=Td p q1 q2;refine h4 ?_ (λh=>by omega) λx hx=>a4 x (.tail _ hx);rw[aw];by_cases h0:0<n
    ·have:=λx=>h ⟨h0,x⟩;omega
    ·rw[a2 (by omega)];simp;omega
theorem wP {k v:Bs} (h:iM n k v=true):k.length<=8/\v.length<=12:=by
 refine⟨GV h,?_⟩;unfold iM at h;simp only[ah,decide_eq_true_eq]at h;exact h.2
theorem Rn (n:Nat):∀(l:KV) (last rest:Bs),last.length<=8->(∀p∈l,iM n p.1 p.2=true)->(∀p∈l.head?,bC last p.1=true)->j4 l->wu n l.length last (rO last l++rest)=some (asC l,rest)
 |[],_,_,_,_,_,_=>rfl
 |p::r,last,rest,hl,hf,hb,hr=>by
  obtain⟨q1,q2⟩:=wP (hf p (.head _));have hs:=Ey last p.1;obtain⟨hp,Ba⟩:=bR.1 hr;have ih:=Rn n r p.1 rest q1 (λx hx=>hf x (.tail _ hx)) (λx hx=>hp x (List.mem_of_mem_head? hx)) Ba;rw[aG,wu,rO,yg];simp only[ay];rw[CY (by omega)];simp only[ai];rw[if_neg (by omega),C9 (by simp;omega)];simp only[ai];rw[C9 (by omega)];simp only[ai];rw[Tk,List.take_append_drop,hf p (.head _),hb p rfl];simp only[Bool.and_self,if_true];rw[ih];rfl
theorem Rh (n:Nat):∀(l:List Chg) (rest:Bs),(∀c∈l,iM n c.k c.v=true/\(c.g=true->c.v=[]))->qG n l.length (qM l++rest)=some (l,rest)
 |[],_,_=>by simp[qM,qG]
 |c::r,rest,hf=>by
  obtain⟨q,q0⟩:=hf c (.head _);obtain⟨q1,q2⟩:=wP q;have ih:=Rh n r rest λx hx=>hf x (.tail _ hx);rw[aG,qM,zq];obtain⟨k,v,g⟩:=c;cases g
  ·simp only[Bool.false_eq_true,if_false,ay,bY,List.nil_append];rw[qG];rw[if_neg (by decide),C9 (by simpa using bp q1 (by decide))];simp only[ai];rw[if_pos (by decide),C9 (by simpa using bp q2 (by decide))];simp only[ai];rw[if_pos q,ih];rfl
  ·obtain rfl:v=[]:=q0 rfl;simp only[if_true,ay,bY,List.nil_append];rw[qG];rw[if_neg (by decide),C9 (by simpa using bp q1 (by decide))];simp only[ai];rw[if_neg (by decide)];simp only[ai];rw[if_pos q,ih];rfl
theorem SN:∀(l:KV) (last:Bs),2*l.length<=(rO last l).length
 |[],_=>xzl _
 |p::r,last=>by
  have ih:=SN r p.1;have h1:∀k,1<=(ve k).length:=λk=>by rw[ve];split<;>simp
  have h2:=h1 (jk last p.1);have h3:=h1 p.2.length;rw[rO,yg];simp only[aw,aG,zk];omega
theorem SL:∀l:List Chg,2*l.length<=(qM l).length
 |[]=>xzl _
 |p::r=>by
  have ih:=SL r;have h1:∀k,1<=(ve k).length:=λk=>by rw[ve];split<;>simp
  have h2:=h1 p.k.length;rw[qM,zq];split<;>simp only[aw,aG,cj,zk]<;>omega
theorem ZF {l:KV} (h:j4 l) (j:Nat):j4 (l.take j):=List.Pairwise.sublist (List.take_sublist j l) h
theorem Xv {l:KV} (hf:∀p∈l,iM n p.1 p.2=true) (hr:j4 l) (eG:l≠[]):1<=(lK l).2/\(lK l).2<=l.length/\(lK l).1.length<=40/\mH 2 n (lK l).1=some (asC (l.take (lK l).2)):=by
 obtain⟨j,h1,h2,h3,h4⟩:=Ls l [] [] 0;have hl:=h4 (by decide) (λ_=>rfl) (by decide) λp hp=>wP (hf p hp);have hj:=h3 rfl eG;have hlen:=SN (l.take j) [];unfold lK;rw[h2];simp only[List.nil_append,aW]at hl⊢;rw[aH,Nat.min_eq_left h1]at hlen;refine⟨hj,h1,by rw[vI (by omega)];simp;omega,?_⟩;have hb:=Rn n (l.take j) [] [] (by decide) (λp hp=>hf p (bj hp)) (λp hp=>?_) (ZF hr j)
 ·rw[aH,Nat.min_eq_left h1,cn]at hb;unfold mH unblock;rw[if_pos rfl,CY (by omega)];simp only[ai];rw[hb];simp only[ai,whole,List.nil_append,List.isEmpty_nil,cz];rw[if_pos];cases l with
  |nil=>exact absurd rfl eG
  |cons p l=>
   obtain⟨i,rfl⟩:∃i,j=i+1:=⟨j-1,by omega⟩
   rfl
 ·have:=hf p (bj (List.mem_of_mem_head? hp));unfold iM iL at this;simp only[ah,decide_eq_true_eq]at this;cases h:p.1 with
  |nil=>rw[h]at this;simp at this
  |cons a b=>rfl
theorem Xd {l:List Chg} (hf:∀c∈l,iM n c.k c.v=true/\(c.g=true->c.v=[])) (eG:l≠[]):1<=(lJ l).2/\(lJ l).2<=l.length/\(lJ l).1.length<=40/\mH 3 n (lJ l).1=some (l.take (lJ l).2):=by
 obtain⟨j,h1,h2,h3,h4⟩:=Lm l [] 0;have hl:=h4 (by decide) (λ_=>rfl) λp hp=>wP (hf p hp).1;have hj:=h3 rfl eG;have hlen:=SL (l.take j);unfold lJ;rw[h2];simp only[List.nil_append,aW]at hl⊢;rw[aH,Nat.min_eq_left h1]at hlen;refine⟨hj,h1,by rw[vI (by omega)];simp;omega,?_⟩;have hb:=Rh n (l.take j) [] λp hp=>hf p (bj hp);rw[aH,Nat.min_eq_left h1,cn]at hb;unfold mH uf;rw[if_neg (by decide),CY (by omega)];simp only[ai];rw[hb];simp only[ai,whole,List.nil_append,List.isEmpty_nil,cz];rw[if_pos];cases l with
 |nil=>exact absurd rfl eG
 |cons p l=>
  obtain⟨i,rfl⟩:∃i,j=i+1:=⟨j-1,by omega⟩
  rfl
end
end Go.Proofs.YtkpekiajdlolnaaGreat
namespace Go.Proofs.YtkpekiajdlolnaaGreat.Ph
open Go.Conc Go.ConcN Go.RowKit Go.Maps Go.Conc.Lib Go Sim
def lay (n:Nat) (x:Nat->aa):Array aa:=((aE n).map x).toArray
section
variable {n j:Nat} {x:Nat->aa} {v:aa}
theorem GA (h:j<n):(lay n x)[j]?=some (x j):=by simp[lay,h]
theorem KI (h:j<n):(lay n x).getD j aX=x j:=by
 rw[bo,GA h];rfl
theorem Gz:(lay n x).setIfInBounds j v=lay n (upd x j v):=by
 apply bP
 ·simp[lay]
 ·intro i h1 h2;simp only[lay,Array.size_setIfInBounds,List.size_toArray,co,List.length_range]at h1 h2;rw[Array.getElem_setIfInBounds]
  ·simp only[lay,upd,List.getElem_toArray,List.getElem_map,List.getElem_range];by_cases e:j=i
   ·rw[if_pos e,if_pos e.symm]
   ·rw[if_neg e,if_neg λh=>e h.symm]
  ·simpa[lay]using h1
theorem Eh (h:t.size=n):lay n (λi=>t.getD i aX)=t:=by
 apply bP
 ·simp[lay,h]
 ·intro i h1 h2;simp only[lay,List.getElem_toArray,List.getElem_map,List.getElem_range];rw[bo,aQ h2];rfl
abbrev evx (n:Nat) (x:Nat->aa):aO->aa:=(Act.mk (lay n x) []).eval
theorem q3e (h:j<n):evx n x (.tmp j)=x j:=KI h
theorem tmp {n j:Nat} {x:Nat->aa} {v:aa} (h:j<n) (e:x j=v):evx n x (.tmp j)=v:=(q3e h).trans e
theorem zb {n j:Nat} {x:Nat->aa} {v:aa} (e:x j=v) (h:j<n:=by decide):evx n x (.tmp j)=v:=tmp h e
end
def Pure (e:aO->aa) (o:Oper) (v:aa):Prop:= ∀w,(aq e o).run prog w=.ok (.value v) w/\(aq e o).events prog w #[]=#[]
section
variable {e:aO->aa} {o:Oper} {a b c:aO} {v:aa} {m n:Int} {t u:Bool} {ty:aS}
end
def ek (l:List (Nat×aa)):aO->aa
 |.tmp j=>(l.lookup j).getD aX
 |.const v=>v
 |_=>aX
section
variable {N:Blocks} {kv:List aa} {cs eU:List cK} {w:ac} {Z:cK->ac->Prop} {b:cK} {k:List Item} {n i j:Nat} {x:Nat->aa} {ops:Array Oper} {td:List Nat} {o:Oper}
end
section
variable {e:aO->aa} {o:Oper} {a b c:aO} {v:aa} {m n:Int} {t u:Bool} {ty:aS} {p:Option Addr} {l cp:Nat}
end
section
variable {N:Blocks} {kv:List aa} {cs eU:List cK} {w:ac} {Z:cK->ac->Prop} {b:cK} {k:List Item} {n i j:Nat} {x:Nat->aa} {ops:Array Oper} {td:List Nat} {o:Oper} {ty:aS} {a:Nat} {g f:Nat}
end
end Go.Proofs.YtkpekiajdlolnaaGreat.Ph
namespace Go.Proofs.YtkpekiajdlolnaaGreat
open Go.RowKit Go.Maps
end Go.Proofs.YtkpekiajdlolnaaGreat
namespace Go.Proofs.YtkpekiajdlolnaaGreat.Ph
open Go.Conc Go.ConcN Go.RowKit Go.Maps Go.Conc.Lib Go Sim
section
variable {P:Program} {ops:Array Oper} {n:Nat} {x0:Nat->aa} {w0:ac} {KN:Nat->aa->ac->Prop}
def EH (ops:Array Oper) (n:Nat):Bool:=
 (aE ops.size).all λj=>match ops[j]? with
  |some o=>o.guard.isNone&&(match o.dst with|some d=>decide (d<n)|none=>false)&&(o.after.all λe=>decide (e.on<j))&&((aE ops.size).all λi=>i==j||(match ops[i]? with|some p=>!(p.dst==o.dst)|none=>true))
  |none=>false
structure RV (ops:Array Oper) (n:Nat) (x0:Nat->aa) (w0:ac) (KN:Nat->aa->ac->Prop) (listed:Array Bool) (a:Act) (w:ac):Prop where
 size:listed.size=ops.size
 lay:∃x,a=⟨lay n x,[]⟩/\(∀s,(∀(j:Nat) o,ops[j]?=some o->o.dst≠some s)->x s=x0 s)/\∀(j:Nat) o d,listed.getD j false=true->ops[j]?=some o->o.dst=some d->KN j (x d) w
 below:aA w0.heap.size w0 w
theorem Qt (h:EH ops n=true) (ho:ops[j]?=some o):o.guard=none/\(∃d,o.dst=some d/\d<n)/\(∀e∈o.after,e.on<j)/\∀i p,ops[i]?=some p->i≠j->p.dst≠o.dst:=by
 unfold EH at h;rw[aD]at h;have hj:j<ops.size:=(kg ho).1;have:=h j (aM.2 hj);rw[ho]at this;simp only[ah,bB]at this;obtain⟨⟨⟨h1,h2⟩,h3⟩,h4⟩:=this;refine⟨h1,?_,λe he=>?_,λi p hp eG hd=>?_⟩
 ·cases hd:o.dst with
  |none=>rw[hd]at h2;cases h2
  |some d=>rw[hd]at h2;exact⟨d,rfl,of_decide_eq_true h2⟩
 ·exact of_decide_eq_true ((aY.1 h3) e he)
 ·rw[aD]at h4;have hi:=(kg hp).1;have:=h4 i (aM.2 hi);rw[hp]at this;simp[eG,hd]at this
def left (m:Nat) (listed:Array Bool):Nat:=(aE m).countP λj=>!listed.getD j true
theorem GQ {m:Nat} {listed:Array Bool} (hi:i<m) (hs:listed.size=m) (h:listed.getD i true=false):left m (listed.setIfInBounds i true)+1=left m listed:=by
 refine Lr _ _ i (λj hj=>?_) (by simpa using h) ?_ _ List.nodup_range (aM.2 hi)
 ·rw[aJ true (Ne.symm hj)]
 ·have:i<listed.size:=by omega
  simp[this]
theorem KF {m:Nat} {listed:Array Bool} (hj:j<m) (h:listed.getD j true=false):0<left m listed:=
 List.countP_pos_iff.2 ⟨j,aM.2 hj,by simp[h]⟩
theorem CW (h:EH ops n=true) {listed:Array Bool} (hs:listed.size=ops.size) (hr:au .any ops listed=[]):∀j,j<ops.size->listed.getD j false=true:=by
 intro j;induction j using Nat.strongRecOn with
 |_ j ih=>
  intro hj;cases hv:listed.getD j false with
  |true=>rfl
  |false=>
   exfalso;obtain⟨o,ho⟩:∃o,ops[j]?=some o:=⟨_,aQ hj⟩
   have eB:j<listed.size:=by omega
   have:j∈au .any ops listed:=bH.2 ⟨by simp[eB]at hv⊢;exact hv,o,ho,λe he _=>by
    have:=(Qt h ho).2.2.1 e he
    exact ih e.on this (by omega)⟩
   rw[hr]at this;cases this
theorem qi8 {id:Nat} (hm:P.follows .mixedOrders=true) (hn:EH ops n=true) (ha:∃x,a=⟨lay n x,[]⟩/\∀s,x s=x0 s) (hw:w0=w.drew)
  (hk:∀j v w w',aA w.heap.size w w'->KN j v w->KN j v w')
  (step:∀(j:Nat) o d x w,ops[j]?=some o->o.dst=some d->(∀s,(∀(j:Nat) o,ops[j]?=some o->o.dst≠some s)->x s=x0 s)->(∀(i:Nat) p e,ops[i]?=some p->p.dst=some e->(∃ed∈o.after,ed.on=i/\aZ .any ed=true)->KN i (x e) w)->aA w0.heap.size w0 w->
   o.wp P ⟨lay n x,[]⟩ w (λa' w'=>∃v,a'=⟨lay n (upd x d v),[]⟩/\KN j v w'/\aA w.heap.size w w') Q)
  (done:∀x w,(∀s,(∀(j:Nat) o,ops[j]?=some o->o.dst≠some s)->x s=x0 s)->(∀(j:Nat) o d,ops[j]?=some o->o.dst=some d->KN j (x d) w)->aA w0.heap.size w0 w->Q .normal ⟨lay n x,[]⟩ w):
  (aC id ops true).wp P Q a w:=by
 refine wp_region_any hm ?_;have main:∀fuel listed a w,left ops.size listed<=fuel->RV ops n x0 w0 KN listed a w->wpAny P .any ops Q fuel listed a w:=by
  intro fuel;have fin:∀listed a w,RV ops n x0 w0 KN listed a w->au .any ops listed=[]->Q .normal a w:=by
   rintro listed a w ⟨h1,⟨x,rfl,h2,h3⟩,h4⟩ hr;exact done x w h2 (λj o d ho hd=>h3 j o d (CW hn h1 hr j (kg ho).1) ho hd) h4
  induction fuel with
  |zero=>
   intro listed a w hl hv;have hr:au .any ops listed=[]:=by
    cases hq:au .any ops listed with
    |nil=>rfl
    |cons j r=>
     exfalso;have hj:j∈au .any ops listed:=by rw[hq];exact .head _
     obtain⟨h1,o,ho,_⟩:=bH.1 hj;have:=KF (kg ho).1 h1;omega
   exact⟨hr,fin listed a w hv hr⟩
  |succ fuel ih=>
   intro listed a w hl hv;refine⟨fin listed a w hv,λj hj=>?_⟩;obtain⟨h1,o,ho,h3⟩:=bH.1 hj;obtain⟨hg,⟨d,hd,qR⟩,jg,qF⟩:=Qt hn ho;obtain⟨eY,⟨x,rfl,hx,kU⟩,hb⟩:=hv;unfold wpOp;rw[ho];simp only[cA,hg,if_true];refine .inl (Oper.wp_mono ?_ (step j o d x w ho hd hx (λi p e hp he ⟨ed,Fg,h5,h6⟩=>kU i p e (by rw[<-h5];exact h3 ed Fg h6) hp he) hb));rintro a' w' ⟨v,rfl,hv,fP⟩;have Bh:j<ops.size:=(kg ho).1;refine ih _ _ _ (by have:=GQ Bh eY h1;omega) ⟨by simpa using eY,⟨_,rfl,λs hs=>?_,λi p e hi hp he=>?_⟩,hb.trans (fP.mono hb.size)⟩
   ·unfold upd;rw[if_neg λe=>hs j o ho (by rw[hd,e])];exact hx s hs
   ·by_cases e1:i=j
    ·subst e1;rw[ho]at hp;cases hp;rw[hd]at he;cases he;unfold upd;rw[if_pos rfl];exact hv
    ·have eG:e≠d:=λe2=>qF i p hp e1 (by rw[he,hd,e2]);unfold upd;rw[if_neg eG];rw[aJ false (Ne.symm e1)]at hi;exact hk i _ w w' fP (kU i p e hi hp he)
 obtain⟨x,rfl,hx⟩:=ha;subst hw;refine main _ _ _ _ (xlt (List.countP_le_length) (by simp)) ⟨by simp,⟨x,rfl,λs _=>hx s,λj o d hj ho hd=>?_⟩,j5 _ _⟩;have:j<ops.size:=(kg ho).1;simp[this]at hj
theorem qi {v:aa} {next:Act->ac->Prop} (h:(aq a.eval o).run P w=.ok (.value v) w') (k:next (a.put o.dst v) w'):o.wp P a w next Q:=by
 unfold Oper.wp;rw[h];exact k
end
theorem rH {ops:Array Oper} {s:Nat} (h:(ops.toList.all λo=>!(o.dst==some s))=true):∀(j:Nat) o,ops[j]?=some o->o.dst≠some s:=λj o ho e=>by
 rw[aD]at h;have:=h o (by rw[<-Array.getElem?_toList]at ho;exact aL ho);rw[e]at this;simp at this
theorem qo (h:(o.after.toList.any λe=>e.on==i&&aZ .any e)=true):∃ed∈o.after,ed.on=i/\aZ .any ed=true:=by
 rw[ce]at h;obtain⟨e,h1,h2⟩:=h;simp only[ah,beq_iff_eq]at h2;exact⟨e,by simpa using h1,h2.1,h2.2⟩
theorem JJ (W:ac) (g:Nat) (x y:Int) (a b:UInt8) (hx:x=a.toNat) (hy:y=b.toNat) (h0:W.cell? ⟨g,0,none⟩=some (.int .u8 x)) (h1:W.cell? ⟨g,1,none⟩=some (.int .u8 y)):(convert 26 9 (.slice (some ⟨g,0,none⟩) 2 2)).run prog W=.ok (.string ⟨#[a,b]⟩) W:=
 bJ (P:=prog) _ 26 9 5 ⟨g,0,none⟩ 2 [a,b] underlying26 underlying5 underlying9 (λj hj=>by
  rw[bm,aW];have hj:j<2:=hj;match j,hj with
  |0,_=>rw[h0,hx];rfl
  |1,_=>rw[h1,hy];rfl)
theorem jci (W:ac) (g:Nat) (x0 x1 x2 x3:Int) (a b c d:UInt8) (e0:x0=a.toNat) (e1:x1=b.toNat) (e2:x2=c.toNat) (e3:x3=d.toNat) (h0:W.cell? ⟨g,0,none⟩=some (.int .u8 x0)) (h1:W.cell? ⟨g,1,none⟩=some (.int .u8 x1)) (h2:W.cell? ⟨g,2,none⟩=some (.int .u8 x2)) (h3:W.cell? ⟨g,3,none⟩=some (.int .u8 x3)):
  (convert 26 9 (.slice (some ⟨g,0,none⟩) 4 4)).run prog W=.ok (.string ⟨#[a,b,c,d]⟩) W:=
 bJ (P:=prog) _ 26 9 5 ⟨g,0,none⟩ 4 [a,b,c,d] underlying26 underlying5 underlying9 (λj hj=>by
  rw[bm,aW];have hj:j<4:=hj;match j,hj with
  |0,_=>rw[h0,e0];rfl
  |1,_=>rw[h1,e1];rfl
  |2,_=>rw[h2,e2];rfl
  |3,_=>rw[h3,e3];rfl)
theorem CG {f:FuncId} {args:Array aa} {R:cw->ac->Prop} {next:Act->ac->Prop} (h:(aq a.eval o).run prog w=.ok (.enter f args) w) (hc:aK prog f args w R) (k:∀e w',R e w'->∃v,e=.returned v/\next (a.put o.dst v) w'):o.wp prog a w next Q:=by
 unfold Oper.wp;rw[h];exact hc.mono λe w' hr=>by
  obtain⟨v,rfl,h⟩:=k e w' hr;exact h
theorem En {q:aO} {s t:ByteArray} (h:o.op=.binOp .add 9 p q 9) (hp:e p=.string s) (hq:e q=.string t) (hl:s.size+t.size<=9223372036854775807):(aq e o).run prog w=.ok (.value (.string (s++t))) w:=by
 have hd:(9223372036854775807<s.size+t.size)=False:=by simp;omega
 unfold aq;simp[go_sem,h,hp,hq,hd]
theorem Et (f:Nat) (hf:f<5) (h:o.op=.fieldAddr 78 p f) (hp:e p=.pointer (some ⟨g,0,none⟩)):(aq e o).run prog w=.ok (.value (.pointer (some ⟨g,f,none⟩))) w:=by
 have hu:=underlying78;have Bo:f=0\/f=1\/f=2\/f=3\/f=4:=by omega
 unfold aq;rcases Bo with rfl|rfl|rfl|rfl|rfl<;>simp[go_sem,h,hp,hu]
theorem ug {a:Addr} {ty:aS} {v:aa} (h:o.op=.load ty p) (hp:e p=.pointer (some a)) (hA:(isAgg ty).run prog w=.ok false w) (hc:w.cell? a=some v):(aq e o).run prog w=.ok (.value v) w:=by
 unfold aq;simp[go_sem,h,hp,hA,hc]
theorem XU {m:Int} (h:o.op=.convert 3 5 p) (hp:e p=.int .i64 m):(aq e o).run prog w=.ok (.value (.int .u8 (IntKind.u8.wrap m))) w:=by
 have hu:=underlying3;have sO:=underlying5;unfold aq;simp[go_sem,h,hp,hu,sO]
theorem Kq {a b:aS} {v v':aa} (h:o.op=.convert a b p) (hp:e p=v) (hc:(convert a b v).run prog w=.ok v' w):(aq e o).run prog w=.ok (.value v') w:=by
 unfold aq;simp[go_sem,h,hp,hc]
theorem Lf {q:aO} {x y:Int} (h:o.op=.buildSlice 26 2 #[(0,p),(1,q)]) (hp:e p=.int .u8 x) (hq:e q=.int .u8 y):(aq e o).run prog w=.ok (.value (.slice (some ⟨w.heap.size,0,none⟩) 2 2)) (w.alloc (.cells #[.int .u8 x,.int .u8 y] 5)):=by
 have hu:=underlying26;unfold aq;simp[go_sem,h,hp,hq,hu]
theorem Le {f:FuncId} {ty:aS} {v:aa} {fn:Func} (h:o.op=.call {callee:=.value (.func f),args:=#[p],argTypes:=#[ty]}) (hp:a.eval p=v) (hf:prog.funcs[f]?=some fn) (jY:(fn.name== "runtime.NumGoroutine")=false) (hb:fn.body.isNone=false):(aq a.eval o).run prog w=.ok (.enter f #[v]) w:=by
 rw[run_call_body h hf jY hb];simp[hp]
theorem Em {v:aa} (h:o.op=.assign p) (hp:e p=v):(aq e o).run prog w=.ok (.value v) w:=by
 unfold aq;simp[go_sem,h,hp]
theorem Md (w:ac) (x y:aa) (t:aS):(w.alloc (.cells #[x,y] t)).cell? ⟨w.heap.size,0,none⟩=some x:=by
 rw[show(⟨w.heap.size,0,none⟩:Addr)=Addr.mk w.heap.size 0 none from rfl];simp[World.cell?_alloc_new]
theorem Mc (w:ac) (x y:aa) (t:aS):(w.alloc (.cells #[x,y] t)).cell? ⟨w.heap.size,1,none⟩=some y:=by
 simp[World.cell?_alloc_new]
theorem qd {d:Nat} {x:Nat->aa} {v:aa} (hd:o.dst=some d):(Act.mk (lay n x) []).put o.dst v=⟨lay n (upd x d v),[]⟩:=by
 rw[hd];show Act.mk ((lay n x).setIfInBounds d v) []=_;rw[Gz]
noncomputable def pb1:Array Oper:=match Tryz.f39.body with|some (.seq _ (.seq a _))=>rg a|_=>#[]
noncomputable def pbo (k:Nat):Oper:=pb1.getD k ⟨none,.alloc 0,0, "",#[],none⟩
theorem q44:EH pb1 41=true:=by kernel_rfl
section
variable {bx id n kd sh:Nat} {ld s0 s1 s2 s3:ByteArray}
def Kpb (bx kd sh id n:Nat) (ld s0 s1 s2 s3:ByteArray):Nat->aa->ac->Prop
 |0,v,_=>v=.pointer (some ⟨bx,0,none⟩)
 |1,v,_=>v=.int .u8 kd
 |2,v,_=>v=.pointer (some ⟨bx,1,none⟩)
 |3,v,_=>v=.int .i64 sh
 |4,v,_=>v=.int .u8 sh
 |5,v,w=>∃g,v=.slice (some ⟨g,0,none⟩) 2 2/\w.cell? ⟨g,0,none⟩=some (.int .u8 kd)/\w.cell? ⟨g,1,none⟩=some (.int .u8 sh)
 |6,v,_=>v=.string s0
 |7,v,_=>v=.pointer (some ⟨bx,2,none⟩)
 |8,v,_=>v=.int .i64 id
 |9,v,_=>v=.string s1
 |10,v,_=>v=.string (s0++s1)
 |11,v,_=>v=.pointer (some ⟨bx,3,none⟩)
 |12,v,_=>v=.int .i64 n
 |13,v,_=>v=.string s2
 |14,v,_=>v=.string (s0++s1++s2)
 |15,v,_=>v=.pointer (some ⟨bx,4,none⟩)
 |16,v,_=>v=.string ld
 |17,v,_=>v=.string s3
 |18,v,_=>v=.string (s0++s1++s2++s3)
 |19,v,_=>v=.string (s0++s1++s2++s3)
 |_,_,_=>True
theorem YQ (j:Nat) (v:aa) (w w':ac) (hb:aA w.heap.size w w') (h:Kpb bx kd sh id n ld s0 s1 s2 s3 j v w):Kpb bx kd sh id n ld s0 s1 s2 s3 j v w':=by
 match j,h with
 |5,h=>
  obtain⟨g,h1,h2,h3⟩:=h;have lt:g<w.heap.size:=xbl w _ h2;exact⟨g,h1,(hb.cell (p:=⟨g,0,none⟩) lt).trans h2,(hb.cell (p:=⟨g,1,none⟩) lt).trans h3⟩
 |0,h|1,h|2,h|3,h|4,h|6,h|7,h|8,h|9,h|10,h|11,h|12,h|13,h|14,h|15,h|16,h|17,h|18,h|19,h=>exact h
 |k+20,_=>trivial
theorem jer (eY:a.tmps.size=41) (M6:a.defers=[]) (h1:a.tmps.getD 1 aX=.pointer (some ⟨bx,0,none⟩)) (c0:w.cell? ⟨bx,0,none⟩=some (.int .u8 kd)) (c1:w.cell? ⟨bx,1,none⟩=some (.int .i64 sh)) (c2:w.cell? ⟨bx,2,none⟩=some (.int .i64 id)) (c3:w.cell? ⟨bx,3,none⟩=some (.int .i64 n)) (c4:w.cell? ⟨bx,4,none⟩=some (.string ld))
  (pQ:kd<256) (iN:sh<256) (e0:s0=⟨#[b8 kd,b8 sh]⟩) (l1:s1.size<=9) (l2:s2.size<=9) (l3:s3.size<=1048585)
  (C1:∀W:ac,aK prog 57 #[.int .i64 id] W λe w'=>e=.returned (.string s1)/\aA W.heap.size W w') (C2:∀W:ac,aK prog 57 #[.int .i64 n] W λe w'=>e=.returned (.string s2)/\aA W.heap.size W w') (C3:∀W:ac,aK prog 58 #[.string ld] W λe w'=>e=.returned (.string s3)/\aA W.heap.size W w')
  (hQ:∀y w',(∀s,(∀(j:Nat) o,pb1[j]?=some o->o.dst≠some s)->y s=a.tmps.getD s aX)->y 3=.string (s0++s1++s2++s3)->aA w.heap.size w w'->Q .normal ⟨lay 41 y,[]⟩ w'):(aC 1 pb1 true).wp prog Q a w:=by
 have l0:s0.size=2:=by rw[e0];rfl
 have lt:bx<w.heap.size:=xbl w _ c0;have hst:=underlying78;refine qi8 (n:=41) (x0:=λs=>a.tmps.getD s aX) (w0:=w.drew) (KN:=Kpb bx kd sh id n ld s0 s1 s2 s3) (by kernel_rfl) q44 ⟨_,?_,λ_=>rfl⟩ rfl YQ ?_ ?_
 ·obtain⟨t,df⟩:=a;obtain rfl:df=[]:=M6;rw[Eh eY]
 ·intro j o d x w1 ho hd hx jg hb;have Fw:∀f,w1.cell? ⟨bx,f,none⟩=w.cell? ⟨bx,f,none⟩:=λf=>hb.cell (p:=⟨bx,f,none⟩) lt;have x1:x 1=.pointer (some ⟨bx,0,none⟩):=(hx 1 (rH (by kernel_rfl))).trans h1;match j,ho with
  |0,ho=>
   cases ho;cases hd;exact qi (Et 0 (by decide) rfl (zb x1)) ⟨_,qd rfl,rfl,j5 _ _⟩
  |1,ho=>
   cases ho;cases hd;have k0:x 5=.pointer (some ⟨bx,0,none⟩):=jg 0 _ 5 rfl rfl (qo rfl);exact qi (ug (ty:=76) rfl (zb k0) (by simp[isAgg]) ((Fw 0).trans c0)) ⟨_,qd rfl,rfl,j5 _ _⟩
  |2,ho=>
   cases ho;cases hd;exact qi (Et 1 (by decide) rfl (zb x1)) ⟨_,qd rfl,rfl,j5 _ _⟩
  |3,ho=>
   cases ho;cases hd;have k2:x 7=.pointer (some ⟨bx,1,none⟩):=jg 2 _ 7 rfl rfl (qo rfl);exact qi (ug (ty:=3) rfl (zb k2) (by simp[isAgg]) ((Fw 1).trans c1)) ⟨_,qd rfl,rfl,j5 _ _⟩
  |4,ho=>
   obtain rfl:=xq (a:=pbo 4) rfl ho;obtain rfl:=xq (a:=9) rfl hd;have k3:x 8=.int .i64 sh:=jg 3 _ 8 rfl rfl (qo rfl);have hw8:IntKind.u8.wrap (sh:Int)=(sh:Int):=by rw[IntKind.wrap_u8'];omega
   have hr:=XU (o:=pbo 4) (w:=w1) rfl (tmp (n:=41) (by decide) k3);rw[hw8]at hr;exact qi hr ⟨_,qd rfl,rfl,j5 _ _⟩
  |5,ho=>
   cases ho;cases hd;have k1:x 6=.int .u8 kd:=jg 1 _ 6 rfl rfl (qo rfl);have k4:x 9=.int .u8 sh:=jg 4 _ 9 rfl rfl (qo rfl);exact qi (Lf rfl (zb k1) (zb k4)) ⟨_,qd rfl,⟨w1.heap.size,rfl,Md _ _ _ _,Mc _ _ _ _⟩,(j5 _ _).alloc (jd _) _⟩
  |6,ho=>
   cases ho;cases hd;obtain⟨g,k5,q0,q1⟩:Kpb bx kd sh id n ld s0 s1 s2 s3 5 (x 10) w1:=jg 5 _ 10 rfl rfl (qo rfl);have hc:=JJ w1 g kd sh (b8 kd) (b8 sh) (by rw[uj pQ]) (by rw[uj iN]) q0 q1;rw[<-e0]at hc;exact qi (Kq rfl (zb k5) hc) ⟨_,qd rfl,rfl,j5 _ _⟩
  |7,ho=>
   cases ho;cases hd;exact qi (Et 2 (by decide) rfl (zb x1)) ⟨_,qd rfl,rfl,j5 _ _⟩
  |8,ho=>
   cases ho;cases hd;have k7:x 12=.pointer (some ⟨bx,2,none⟩):=jg 7 _ 12 rfl rfl (qo rfl);exact qi (ug (ty:=3) rfl (zb k7) (by simp[isAgg]) ((Fw 2).trans c2)) ⟨_,qd rfl,rfl,j5 _ _⟩
  |9,ho=>
   obtain rfl:=xq (a:=pbo 9) rfl ho;obtain rfl:=xq (a:=14) rfl hd;have k8:x 13=.int .i64 id:=jg 8 _ 13 rfl rfl (qo rfl);have hr:=Le (o:=pbo 9) (w:=w1) rfl (tmp (n:=41) (by decide) k8) func57 (by kernel_rfl) (by kernel_rfl);refine CG hr (C1 w1) λe w2 h=>⟨_,h.1,_,qd rfl,rfl,h.2⟩
  |10,ho=>
   cases ho;cases hd;have k6:x 11=.string s0:=jg 6 _ 11 rfl rfl (qo rfl);have k9:x 14=.string s1:=jg 9 _ 14 rfl rfl (qo rfl);exact qi (En rfl (zb k6) (zb k9) (by omega)) ⟨_,qd rfl,rfl,j5 _ _⟩
  |11,ho=>
   cases ho;cases hd;exact qi (Et 3 (by decide) rfl (zb x1)) ⟨_,qd rfl,rfl,j5 _ _⟩
  |12,ho=>
   cases ho;cases hd;have yU:x 16=.pointer (some ⟨bx,3,none⟩):=jg 11 _ 16 rfl rfl (qo rfl);exact qi (ug (ty:=3) rfl (zb yU) (by simp[isAgg]) ((Fw 3).trans c3)) ⟨_,qd rfl,rfl,j5 _ _⟩
  |13,ho=>
   obtain rfl:=xq (a:=pbo 13) rfl ho;obtain rfl:=xq (a:=18) rfl hd;have yT:x 17=.int .i64 n:=jg 12 _ 17 rfl rfl (qo rfl);have hr:=Le (o:=pbo 13) (w:=w1) rfl (tmp (n:=41) (by decide) yT) func57 (by kernel_rfl) (by kernel_rfl);refine CG hr (C2 w1) λe w2 h=>⟨_,h.1,_,qd rfl,rfl,h.2⟩
  |14,ho=>
   cases ho;cases hd;have ni:x 15=.string (s0++s1):=jg 10 _ 15 rfl rfl (qo rfl);have AZ:x 18=.string s2:=jg 13 _ 18 rfl rfl (qo rfl);exact qi (En rfl (zb ni) (zb AZ) (by simp only[bM];omega)) ⟨_,qd rfl,rfl,j5 _ _⟩
  |15,ho=>
   cases ho;cases hd;exact qi (Et 4 (by decide) rfl (zb x1)) ⟨_,qd rfl,rfl,j5 _ _⟩
  |16,ho=>
   cases ho;cases hd;have AY:x 20=.pointer (some ⟨bx,4,none⟩):=jg 15 _ 20 rfl rfl (qo rfl);exact qi (ug (ty:=9) rfl (zb AY) (by simp[isAgg]) ((Fw 4).trans c4)) ⟨_,qd rfl,rfl,j5 _ _⟩
  |17,ho=>
   obtain rfl:=xq (a:=pbo 17) rfl ho;obtain rfl:=xq (a:=22) rfl hd;have EM:x 21=.string ld:=jg 16 _ 21 rfl rfl (qo rfl);have hr:=Le (o:=pbo 17) (w:=w1) rfl (tmp (n:=41) (by decide) EM) func58 (by kernel_rfl) (by kernel_rfl);refine CG hr (C3 w1) λe w2 h=>⟨_,h.1,_,qd rfl,rfl,h.2⟩
  |18,ho=>
   cases ho;cases hd;have vK:x 19=.string (s0++s1++s2):=jg 14 _ 19 rfl rfl (qo rfl);have AX:x 22=.string s3:=jg 17 _ 22 rfl rfl (qo rfl);exact qi (En rfl (zb vK) (zb AX) (by simp only[bM];omega)) ⟨_,qd rfl,rfl,j5 _ _⟩
  |19,ho=>
   cases ho;cases hd;have EK:x 23=.string (s0++s1++s2++s3):=jg 18 _ 23 rfl rfl (qo rfl);exact qi (Em rfl (zb EK)) ⟨_,qd rfl,rfl,j5 _ _⟩
  |k+20,ho=>exact absurd ho (by rw[bK (show pb1.size<=k+20 by show 20<=k+20;omega)];exact λe=>by cases e)
 ·intro y w1 hy hk hb;exact hQ y w1 hy (hk 19 (pbo 19) 3 rfl rfl) (Below.trans (b:=w.drew) ⟨rfl,rfl,rfl,jd _,λ_ _=>rfl⟩ hb)
end
noncomputable def db1:Array Oper:=match Tryz.f132.body with|some (.seq _ (.seq a _))=>rg a|_=>#[]
section
variable {bx id n kd sh:Nat} {ld s0 s1 s2 s3:ByteArray}
end
theorem jd7 (y:Nat->aa):lay 41 y=#[y 0,y 1,y 2,y 3,y 4,y 5,y 6,y 7,y 8,y 9,y 10,y 11,y 12,y 13,y 14,y 15,y 16,y 17,y 18,y 19,y 20,y 21,y 22,y 23,y 24,y 25,y 26,y 27,y 28,y 29,y 30,y 31,y 32,y 33,y 34,y 35,y 36,y 37,y 38,y 39,y 40]:=rfl
def frB (kd sh id n:Nat) (ld:ByteArray):ByteArray:=⟨(Fr.bytes ⟨kd,sh,id,n,ld.data.toList⟩).toArray⟩
def frX (kd sh id n:Nat) (ld:ByteArray):ByteArray:=(⟨#[b8 kd,b8 sh]⟩:ByteArray)++⟨(ve id).toArray⟩++⟨(ve n).toArray⟩++⟨(zk ld.data.toList).toArray⟩
theorem Rc (kd sh id n:Nat) (ld:ByteArray):(frX kd sh id n ld).data.toList=Fr.body ⟨kd,sh,id,n,ld.data.toList⟩:=by
 simp[frX,Fr.body]
theorem Yo (kd sh id n:Nat) (ld:ByteArray):frX kd sh id n ld++(⟨(le4 (chk (frX kd sh id n ld).data.toList)).toArray⟩:ByteArray)=frB kd sh id n ld:=by
 have h:(frX kd sh id n ld++(⟨(le4 (chk (frX kd sh id n ld).data.toList)).toArray⟩:ByteArray)).data.toList=(frB kd sh id n ld).data.toList:=by
  simp only[ByteArray.data_append,Array.toList_append,Rc,frB,Fr.bytes,List.toList_toArray]
 have h2:∀a b:ByteArray,a.data.toList=b.data.toList->a=b:=λa b e=>by
  cases a;cases b;simp only[ByteArray.mk.injEq];exact Array.toList_inj.1 e
 exact h2 _ _ h
theorem CP (h:n<9223372036854775808):(ve n).length<=9:=vk 8 n (by omega)
theorem Xk {kd sh id:Nat} (h1:id<9223372036854775808) (h2:n<9223372036854775808) (h3:ld.size<=1048576):(frX kd sh id n ld).size<=2097152:=by
 have a1:=CP h1;have a2:=CP h2;have a3:=CP (n:=ld.data.toList.length) (by simp;omega);have e:(frX kd sh id n ld).size=(frX kd sh id n ld).data.toList.length:=by simp
 rw[e,Rc];simp only[Fr.body,aw,aG,cj,zk];have:ld.data.toList.length=ld.size:=by simp
 omega
theorem WQ {C:Nat} (w:ac):(convert 26 9 (.slice (some ⟨w.heap.size,0,none⟩) 4 4)).run prog (w.alloc (.cells #[.int .u8 ((C:Int)%256),.int .u8 ((C:Int)/256%256),.int .u8 ((C:Int)/65536%256),.int .u8 ((C:Int)/16777216%256)] 5))=.ok (.string ⟨#[b8 C,b8 (C/256),b8 (C/65536),b8 (C/16777216)]⟩) (w.alloc (.cells #[.int .u8 ((C:Int)%256),.int .u8 ((C:Int)/256%256),.int .u8 ((C:Int)/65536%256),.int .u8 ((C:Int)/16777216%256)] 5)):=
 jci _ _ ((C:Int)%256) ((C:Int)/256%256) ((C:Int)/65536%256) ((C:Int)/16777216%256) _ _ _ _ (by simp[b8]) (by simp[b8]) (by simp[b8]) (by simp[b8]) (by go_simp) (by go_simp) (by go_simp) (by go_simp)
theorem Eu (kd sh id n:Nat) (ld:ByteArray) (pQ:kd<256) (iN:sh<256) (hid:id<9223372036854775808) (hn:n<9223372036854775808) (fH:ld.size<=1048576):
  aK prog 39 #[.agg #[.int .u8 kd,.int .i64 sh,.int .i64 id,.int .i64 n,.string ld]] w λe w'=>e=.returned (.string (frB kd sh id n ld))/\aA w.heap.size w w':=by
 have HX:=Hd (Xk (kd:=kd) (sh:=sh) hid hn fH);have HB:=Hd (Yo kd sh id n ld);have H1:=Hd (am pQ (am iN (am hid (am hn fH))));have l3:(zk ld.data.toList).length<=1048585:=by
  have a3:=CP (n:=ld.data.toList.length) (by simp;omega);have:ld.data.toList.length=ld.size:=by simp
  simp only[zk,aw];omega
 have HL:=Hd l3;clear pQ iN hid hn fH l3;go_enter func39,ntmps39;go_wp2;change bT _ (aC 1 pb1 true) _ _ _;refine jer (bx:=w.heap.size) (kd:=kd) (sh:=sh) (id:=id) (n:=n) (ld:=ld) (s1:=⟨(ve id).toArray⟩) (s2:=⟨(ve n).toArray⟩) (s3:=⟨(zk ld.data.toList).toArray⟩) rfl rfl rfl (by go_simp) (by go_simp) (by go_simp) (by go_simp) (by go_simp) H1.1 H1.2.1 rfl (by simpa[bq]using CP H1.2.2.1) (by simpa[bq]using CP H1.2.2.2.1) (by simpa[bq]using HL.o) (λW=>yD id H1.2.2.1) (λW=>yD n H1.2.2.2.1) (λW=>TY ld (by have:=H1.2.2.2.2;omega)) ?_;intro y w1 _ y3 iI;rw[jd7];replace y3:y 3=.string (frX kd sh id n ld):=y3;rw[y3];have BH:=Hd (((j5 w.heap.size w).alloc (jd _) _).trans (iI.mono (by simp)));clear iI y3;obtain⟨X,hX⟩:∃X,frX kd sh id n ld=X:=⟨_,rfl⟩
 rw[hX]at HB HX;rw[hX];clear hX;have HC:=Hd (P9 X.data.toList);go_wp2_with (go_at_call 61;refine(QE X (by have:=HX.o;omega)).mono ?_;rintro e w2 ⟨rfl,rfl⟩;generalize chk X.data.toList=C at *; have Ve:=WQ (C:=C) w2;have eY:=HX.o)
 go_ret;exact⟨by rw[<-HB.o];rfl,BH.trans ((j5 _ _).alloc BH.size _)⟩
def waits (ops:Array Oper) (m:Nat):List Bool->Nat->List Bool
 |S,0=>S
 |S,j+1=>waits ops m (if S.getD j false then(match ops[j]? with
  |some o=>S.mapIdx λi b=>b||o.after.toList.any λe=>e.on==i&&aZ .any e
  |none=>S)else S) j
def Ci (ops:Array Oper) (n:Nat):Bool:=
 (decide (0<ops.size))&&((aE ops.size).all λj=>match ops[j]? with
  |some o=>o.guard.isNone&&(match o.dst with|some d=>decide (d<n)&&decide (j+1<ops.size)|none=>decide (j+1=ops.size))&&(o.after.all λe=>decide (e.on<j))&&((aE ops.size).all λi=>i==j||(match ops[i]? with|some p=>!(p.dst==o.dst)|none=>true))
  |none=>false)&&((waits ops (ops.size-1) ((aE ops.size).map λi=>i+1==ops.size) ops.size).all id)
section
variable {P:Program} {ops:Array Oper} {n:Nat} {x0:Nat->aa} {KN:Nat->aa->ac->Prop} {turn:Nat} {J:Bool->ac->Prop}
def Cm (ops:Array Oper) (listed:Array Bool):Prop:= ∀(j:Nat) o,ops[j]?=some o->listed.getD j false=true->∀e∈o.after,aZ .any e=true->listed.getD e.on false=true
theorem G5 (ops:Array Oper) (m:Nat) {listed:Array Bool} (hs:Cm ops listed):∀(k:Nat) (S:List Bool),(∀i,S.getD i false=true->listed.getD i false=true)->∀i,(waits ops m S k).getD i false=true->listed.getD i false=true
 |0,S,h=>h
 |k+1,S,h=>by
  unfold waits;refine G5 ops m hs k _ ?_;intro i hi;split at hi
  ·rename_i hk;have rV:=h k hk;split at hi
   ·rename_i o ho;rw[ao,List.getElem?_mapIdx]at hi;cases hb:S[i]? with
    |none=>rw[hb]at hi;cases hi
    |some b=>
     rw[hb]at hi;simp only[bL,bi,Bool.or_eq_true,ce]at hi;rcases hi with hi|⟨e,he,h2⟩
     ·exact h i (by rw[ao,hb];exact hi)
     ·simp only[ah,beq_iff_eq]at h2;rw[<-h2.1];exact hs k o ho rV e (by simpa using he) h2.2
   ·exact h i hi
  ·exact h i hi
theorem Q5 (h:Ci ops n=true) (ho:ops[j]?=some o):o.guard=none/\(∀e∈o.after,e.on<j)/\(∀i p,ops[i]?=some p->i≠j->p.dst≠o.dst)/\((∃d,o.dst=some d/\d<n/\j+1<ops.size)\/(o.dst=none/\j+1=ops.size)):=by
 unfold Ci at h;simp only[ah]at h;have h:=h.1.2;rw[aD]at h;have hj:j<ops.size:=(kg ho).1;have:=h j (aM.2 hj);rw[ho]at this;simp only[ah,bB]at this;obtain⟨⟨⟨h1,h2⟩,h3⟩,h4⟩:=this;refine⟨h1,λe he=>of_decide_eq_true ((aY.1 h3) e he),λi p hp eG hd=>?_,?_⟩
 ·rw[aD]at h4;have hi:=(kg hp).1;have:=h4 i (aM.2 hi);rw[hp]at this;simp[eG,hd]at this
 ·cases hd:o.dst with
  |none=>rw[hd]at h2;exact .inr ⟨rfl,of_decide_eq_true h2⟩
  |some d=>rw[hd]at h2;simp only[ah]at h2;exact .inl ⟨d,rfl,of_decide_eq_true h2.1,of_decide_eq_true h2.2⟩
structure RS (ops:Array Oper) (n:Nat) (x0:Nat->aa) (turn:Nat) (J:Bool->ac->Prop) (KN:Nat->aa->ac->Prop) (Q:Exit->Act->ac->Prop) (listed:Array Bool) (a:Act) (w:ac):Prop where
 size:listed.size=ops.size
 shut:Cm ops listed
 go:(listed.getD (ops.size-1) true=false/\J (listed.getD turn false) w/\∃x,a=⟨lay n x,[]⟩/\(∀s,(∀(j:Nat) o,ops[j]?=some o->o.dst≠some s)->x s=x0 s)/\∀(j:Nat) o d,listed.getD j false=true->ops[j]?=some o->o.dst=some d->KN j (x d) w)\/(listed.getD (ops.size-1) false=true/\Q .normal a w)
theorem qjy {id:Nat} (hm:P.follows .mixedOrders=true) (hn:Ci ops n=true) (ha:∃x,a=⟨lay n x,[]⟩/\∀s,x s=x0 s) (hw:J false w.drew)
  (step:∀(j:Nat) o d x w (b:Bool),(j=turn->b=false)->ops[j]?=some o->o.dst=some d->(∀s,(∀(j:Nat) o,ops[j]?=some o->o.dst≠some s)->x s=x0 s)->(∀(i:Nat) p e,ops[i]?=some p->p.dst=some e->(∃ed∈o.after,ed.on=i/\aZ .any ed=true)->KN i (x e) w)->J b w->
   o.wp P ⟨lay n x,[]⟩ w (λa' w'=>∃v,a'=⟨lay n (upd x d v),[]⟩/\KN j v w'/\J (b||j==turn) w'/\∀i u,i≠j->KN i u w->KN i u w') Q)
  (last:∀(m:Nat) o x w,m+1=ops.size->ops[m]?=some o->(∀s,(∀(j:Nat) o,ops[j]?=some o->o.dst≠some s)->x s=x0 s)->(∀(j:Nat) o d,ops[j]?=some o->o.dst=some d->KN j (x d) w)->J (decide (turn+1<ops.size)) w->o.wp P ⟨lay n x,[]⟩ w (λa' w'=>Q .normal a' w') Q):
  (aC id ops true).wp P Q a w:=by
 refine wp_region_any hm ?_;have jC:0<ops.size:=by
  unfold Ci at hn;simp only[ah,decide_eq_true_eq]at hn;exact hn.1.1
 have Dh:((waits ops (ops.size-1) ((aE ops.size).map λi=>i+1==ops.size) ops.size).all (λb=>b))=true:=by
  unfold Ci at hn;simp only[ah]at hn;exact hn.2
 have IZ:∀(k:Nat) (S:List Bool),(waits ops (ops.size-1) S k).length=S.length:=by
  intro k;induction k with
  |zero=>intro S;rfl
  |succ k ih=>
   intro S;unfold waits;rw[ih];split
   ·split
    ·simp
    ·rfl
   ·rfl
 -- if none is ready,all are done
 have CW:∀{listed:Array Bool},listed.size=ops.size->au .any ops listed=[]->∀j,j<ops.size->listed.getD j false=true:=by
  intro listed hs qO j;induction j using Nat.strongRecOn with
  |_ j ih=>
   intro hj;cases hv:listed.getD j false with
   |true=>rfl
   |false=>
    exfalso;obtain⟨o,ho⟩:∃o,ops[j]?=some o:=⟨_,aQ hj⟩
    have eB:j<listed.size:=by omega
    have:j∈au .any ops listed:=bH.2 ⟨by simp[eB]at hv⊢;exact hv,o,ho,λe he _=>by
     have:=(Q5 hn ho).2.1 e he
     exact ih e.on this (by omega)⟩
    rw[qO]at this;cases this
 have main:∀fuel listed a w,left ops.size listed<=fuel->RS ops n x0 turn J KN Q listed a w->wpAny P .any ops Q fuel listed a w:=by
  intro fuel;have fin:∀listed a w,RS ops n x0 turn J KN Q listed a w->au .any ops listed=[]->Q .normal a w:=by
   rintro listed a w ⟨h1,h2,h3⟩ qO;rcases h3 with⟨h3,_⟩|⟨_,h3⟩
   ·have:=CW h1 qO (ops.size-1) (by omega);have eB:ops.size-1<listed.size:=by omega
    simp[eB]at this h3;rw[this]at h3;cases h3
   ·exact h3
  induction fuel with
  |zero=>
   intro listed a w hl hv;have qO:au .any ops listed=[]:=by
    cases hq:au .any ops listed with
    |nil=>rfl
    |cons j r=>
     exfalso;have hj:j∈au .any ops listed:=by rw[hq];exact .head _
     obtain⟨h1,o,ho,_⟩:=bH.1 hj;have:=KF (kg ho).1 h1;omega
   exact⟨qO,fin listed a w hv qO⟩
  |succ fuel ih=>
   intro listed a w hl hv;refine⟨fin listed a w hv,λj hj=>?_⟩;obtain⟨h1,o,ho,h3⟩:=bH.1 hj;obtain⟨hg,jg,qF,F9⟩:=Q5 hn ho;obtain⟨eY,iN,hgo⟩:=hv;have Bh:j<ops.size:=(kg ho).1
   -- the list is shut behind it,too
   have oD:Cm ops (listed.setIfInBounds j true):=by
    intro i p hp hi e he Fv;by_cases e1:i=j
    ·subst e1;rw[ho]at hp;cases hp;have eB:=jg e he;rw[aJ false (by omega)];exact h3 e he Fv
    ·rw[aJ false (Ne.symm e1)]at hi;have h4:=iN i p hp hi e he Fv;by_cases e2:e.on=j
     ·rw[e2];have:j<listed.size:=by omega
      simp[this]
     ·rw[aJ false (Ne.symm e2)];exact h4
   -- were the last one done,all would be
   have FV:listed.getD (ops.size-1) false≠true:=λhT=>by
    have fF:=G5 ops (ops.size-1) iN ops.size ((aE ops.size).map λi=>i+1==ops.size) (λi hi=>by
     rw[ao,bd]at hi;by_cases qP:i<ops.size
     ·rw[List.getElem?_range qP]at hi;simp only[bL,bi,beq_iff_eq]at hi;rw[show i=ops.size-1 by omega];exact hT
     ·rw[bN (by simp;omega)]at hi;cases hi) j (by
     rw[aD]at Dh;have hlen:j<(waits ops (ops.size-1) ((aE ops.size).map λi=>i+1==ops.size) ops.size).length:=by rw[IZ];simp;exact Bh
     rw[ao,aF hlen]
     exact Dh _ (cf hlen))
    have eB:j<listed.size:=by omega
    simp[eB]at fF h1;rw[fF]at h1;cases h1
   obtain⟨pM,hR,x,rfl,hx,kU⟩:_:=hgo.resolve_right λh=>FV h.1;unfold wpOp;rw[ho];simp only[cA,hg,if_true];rcases F9 with⟨d,hd,qR,Dm⟩|⟨hd,Dm⟩
   ·refine .inl (Oper.wp_mono ?_ (step j o d x w (listed.getD turn false) (λe=>?_) ho hd hx (λi p e hp he ⟨ed,Fg,h5,h6⟩=>kU i p e (by rw[<-h5];exact h3 ed Fg h6) hp he) hR));rotate_left
    ·rw[<-e];have eB:j<listed.size:=by omega
     simp[eB]at h1⊢;exact h1
    rintro a' w' ⟨v,rfl,hv,fP,hk⟩;have fP:J ((listed.setIfInBounds j true).getD turn false) w':=by
     by_cases e:j=turn
     ·subst e;have eB:j<listed.size:=by omega
      simp[eB]at fP⊢;exact fP
     ·rw[aJ false e];have e2:(j==turn)=false:=by simpa using e
      rw[e2,Bool.or_false]at fP;exact fP
    refine ih _ _ _ (by have:=GQ Bh eY h1;omega) ⟨by simpa using eY,oD,.inl ⟨by rw[aJ true (by omega)];exact pM,fP,_,rfl,λs hs=>?_,λi p e hi hp he=>?_⟩⟩
    ·unfold upd;rw[if_neg λe=>hs j o ho (by rw[hd,e])];exact hx s hs
    ·by_cases e1:i=j
     ·subst e1;rw[ho]at hp;cases hp;rw[hd]at he;cases he;unfold upd;rw[if_pos rfl];exact hv
     ·have eG:e≠d:=λe2=>qF i p hp e1 (by rw[he,hd,e2]);unfold upd;rw[if_neg eG];rw[aJ false (Ne.symm e1)]at hi;exact hk i _ e1 (kU i p e hi hp he)
   ·have fF:∀i,i<ops.size-1->listed.getD i false=true:=by
     intro i hi;have fF:=G5 ops (ops.size-1) oD ops.size ((aE ops.size).map λi=>i+1==ops.size) (λi hi=>by
      rw[ao,bd]at hi;by_cases qP:i<ops.size
      ·rw[List.getElem?_range qP]at hi;simp only[bL,bi,beq_iff_eq]at hi;rw[show i=j by omega];have:j<listed.size:=by omega
       simp[this]
      ·rw[bN (by simp;omega)]at hi;cases hi) i (by
      rw[aD]at Dh;have hlen:i<(waits ops (ops.size-1) ((aE ops.size).map λi=>i+1==ops.size) ops.size).length:=by rw[IZ];simp;omega
      rw[ao,aF hlen]
      exact Dh _ (cf hlen))
     rw[aJ false (by omega)]at fF;exact fF
    refine .inl (Oper.wp_mono ?_ (last j o x w Dm ho hx (λi p d hp nE=>kU i p d (fF i ?_) hp nE) (by
     have:listed.getD turn false=decide (turn+1<ops.size):=by
      by_cases e:turn+1<ops.size
      ·rw[fF turn (by omega)];simp[e]
      ·by_cases e2:turn=ops.size-1
       ·rw[e2];have eB:ops.size-1<listed.size:=by omega
        simp[eB]at pM⊢;rw[pM];simp;omega
       ·simp[e,show¬turn<listed.size by omega]
     rw[<-this];exact hR)))
    ·intro a' w' hq;refine ih _ _ _ (by have:=GQ Bh eY h1;omega) ⟨by simpa using eY,oD,.inr ⟨?_,hq⟩⟩;rw[show ops.size-1=j by omega];have:j<listed.size:=by omega
     simp[this]
    ·have hi:=(kg hp).1;rcases Nat.lt_or_ge i (ops.size-1)with h|h
     ·exact h
     ·exfalso;have:i=j:=by omega
      subst this;rw[ho]at hp;cases hp;rw[hd]at nE;cases nE
 obtain⟨x,rfl,hx⟩:=ha;have h0f:J ((cq ops.size false).getD turn false) w.drew:=by
  have:(cq ops.size false).getD turn false=false:=by
   by_cases h:turn<ops.size<;>simp[h]
  rw[this];exact hw
 refine main _ _ _ _ (xlt (List.countP_le_length) (by simp)) ⟨by simp,λj o ho hj=>?_,.inl ⟨?_,h0f,x,rfl,λs _=>hx s,λj o d hj ho hd=>?_⟩⟩
 ·have:j<ops.size:=(kg ho).1;simp[this]at hj
 ·have:ops.size-1<ops.size:=by omega
  simp[this]
 ·have:j<ops.size:=(kg ho).1;simp[this]at hj
end
section
variable {e:aO->aa} {o:Oper} {p q:aO} {v:aa} {g f k:Nat} {w:ac}
theorem run_move (h:o.op=.move p) (hp:e p=v):(aq e o).run prog w=.ok (.value v) w:=by
 unfold aq;simp[go_sem,h,hp]
theorem Ay {a:Addr} (h:o.op=.nilCheck p) (hp:e p=.pointer (some a)):(aq e o).run prog w=.ok (.value (.pointer (some a))) w:=by
 unfold aq;simp[go_sem,h,hp]
theorem LA (f:Nat) (hf:f<3) (h:o.op=.fieldAddr 66 p f) (hp:e p=.pointer (some ⟨g,k,none⟩)):(aq e o).run prog w=.ok (.value (.pointer (some ⟨g,k+f,none⟩))) w:=by
 have hu:=underlying66;have Bo:f=0\/f=1\/f=2:=by omega
 have OP:∀j,(⟨g,k,none⟩:Addr).add j=⟨g,k+j,none⟩:=λj=>bm ..;unfold aq;rcases Bo with rfl|rfl|rfl<;>simp[go_sem,h,hp,hu,OP]
end
theorem Gp (y:Nat->aa):lay 106 y=#[y 0,y 1,y 2,y 3,y 4,y 5,y 6,y 7,y 8,y 9,y 10,y 11,y 12,y 13,y 14,y 15,y 16,y 17,y 18,y 19,y 20,y 21,y 22,y 23,y 24,y 25,y 26,y 27,y 28,y 29,y 30,y 31,y 32,y 33,y 34,y 35,y 36,y 37,y 38,y 39,y 40,y 41,y 42,y 43,y 44,y 45,y 46,y 47,y 48,y 49,y 50,y 51,y 52,y 53,y 54,y 55,y 56,y 57,y 58,y 59,y 60,y 61,y 62,y 63,y 64,y 65,y 66,y 67,y 68,y 69,y 70,y 71,y 72,y 73,y 74,y 75,y 76,y 77,y 78,y 79,y 80,y 81,y 82,y 83,y 84,y 85,y 86,y 87,y 88,y 89,y 90,y 91,y 92,y 93,y 94,y 95,y 96,y 97,y 98,y 99,y 100,y 101,y 102,y 103,y 104,y 105]:=rfl
def q37:Code->Code
 |.seq _ b=>b
 |c=>c
noncomputable def cg1:Array Oper:=match Tryz.f50.body with
 |some (.seq _ (.seq _ (.seq _ (.seq _ (.seq _ (.seq _ (.seq _ (.seq (.seq _ (.cond _ a _)) _))))))))=>rg a
 |_=>#[]
theorem q9m (h:t.size=n) (g:K ⟨lay n λj=>t.getD j aX,[]⟩ w):K ⟨t,[]⟩ w:=by
 have e:lay n (λj=>t.getD j aX)=t:=by
  apply bP
  ·simp[lay,h]
  ·intro i h1 h2;simp[lay,cy,h2]
 rwa [e]at g
section
variable {cl cb n x:Nat} {pv cv:aa} {ld:ByteArray} {m:Mv} {k v:ByteArray} {g:Bool}
theorem MX.appO {gb off cap H:Nat} {c:Chg} (h:MX x n pv cv ld m w) (o:Obj) (Mx:w1=(w.alloc o).drew) (hg:w1.grownBy w3 cv.ownBlock) (hr:jr w3 109 3 (.slice (some ⟨gb,off,none⟩) (m.cs.length+1) cap) (m.cs.length+1) (jM m.cs++[sv c.k,sv c.v,.bool c.g])) (oo:cv.ownBlock=some gb\/gb=H) (hH:w1.heap.size=H):
  w3.cell? ⟨x,4,none⟩=some cv/\w3.frozen? ⟨x,4,none⟩=false/\(MX x n pv (.slice (some ⟨gb,off,none⟩) (m.cs.length+1) cap) ld {m with cs:=m.cs++[c]} (w3.setCell ⟨x,4,none⟩ (.slice (some ⟨gb,off,none⟩) (m.cs.length+1) cap)))/\
   (∀b,(Value.slice (some ⟨gb,off,none⟩) (m.cs.length+1) cap).ownBlock=some b->cv.ownBlock=some b\/w.heap.size<=b)/\But (λq=>q=x\/cv.ownBlock=some q) w (w3.setCell ⟨x,4,none⟩ (.slice (some ⟨gb,off,none⟩) (m.cs.length+1) cap)):=by
 have eB:=h.lt;have hw:But (λ_=>False) w w1:=by
  subst Mx;exact⟨by simp,λb hb _=>aI w o hb,rfl,rfl⟩
 have eY:=hw.size;have eG:some x≠cv.ownBlock:=λe=>by
  obtain⟨cc,hc⟩:=jr.ty h.r e.symm;rw[h.b]at hc;cases hc
 have b3:But (λb=>cv.ownBlock=some b) w w3:=⟨by have:=hg.size;omega,λb hb hn=>(hg.block b (by omega) λe=>hn e.symm).trans (hw.keep b hb id),hg.os.trans hw.os,hg.output.trans hw.output⟩
 have fM:=(b3.keep x eB λe=>eG e.symm).trans h.b;have hgx:gb≠x:=λe=>by
  rcases oo with e2|e2
  ·exact eG (by rw[e2,e])
  ·omega
 refine⟨by simp[ae,fM,qf],by simp[bF,fM],⟨(xhs w3 x 4 _ _ _ fM).trans rfl,?_⟩,λb hb=>?_,But.setCell (b3.mono λb e=>.inr e) (.inl rfl) 4 _⟩
 ·unfold oZ;rw[show({m with cs:=m.cs++[c]}:Mv).cs=m.cs++[c]from rfl,aw,show jM (m.cs++[c])=jM m.cs++[sv c.k,sv c.v,.bool c.g] by simp[jM]];exact hr.block λb hb=>xho _ _ _ _ λe=>hgx ((xoi hb).trans e)
 ·obtain rfl:=xoi hb;exact oo.imp id λe=>by show w.heap.size<=gb;omega
theorem J4 {F:Func} {PP:cw->ac->Prop} (ht:t.size=106) (h3:t.getD 3 aX=.pointer (some ⟨cb,0,none⟩)) (h7:t.getD 7 aX=.pointer (some ⟨cl,1+n*3,none⟩))
  (hx:MX x n pv cv ld m w) (hv:w.cell? ⟨cl,1+n*3+2,none⟩=some (.pointer (some ⟨x,0,none⟩))) (c0:w.cell? ⟨cb,0,none⟩=some (.string k)) (c1:w.cell? ⟨cb,1,none⟩=some (.string v)) (c2:w.cell? ⟨cb,2,none⟩=some (.bool g)) (lY:cv.ownBlock≠some cl) (gI:m.cs.length<=1073741820)
  (hQ:∀y w' cv',MX x n pv cv' ld {m with cs:=m.cs++[Gh k v g]} w'->(∀b,cv'.ownBlock=some b->cv.ownBlock=some b\/w.heap.size<=b)->But (λq=>q=x\/cv.ownBlock=some q) w w'->K ⟨lay 106 y,[]⟩ w'):(aC 16 cg1 true).wp prog (Exit.then K (bodyPost prog F PP)) ⟨t,[]⟩ w:=by
 have e:lay 106 (λj=>t.getD j aX)=t:=by
  apply bP
  ·simp[lay,ht]
  ·intro i h1 h2;simp[lay,cy,h2]
 rw[<-e];clear e;obtain⟨x3,lT⟩:∃x3:Nat->aa,(λj=>t.getD j aX)=x3:=⟨_,rfl⟩
 have h3:x3 3=.pointer (some ⟨cb,0,none⟩):=by rw[<-lT];exact h3
 have h7:x3 7=.pointer (some ⟨cl,1+n*3,none⟩):=by rw[<-lT];exact h7
 rw[lT];clear lT;obtain⟨x3,rfl⟩:=qb h3;obtain⟨x3,rfl⟩:=qb (x:=x3) (j:=7) (v:=.pointer (some ⟨cl,1+n*3,none⟩)) h7;clear h3 h7;have HX:=Hd hx;have HQ:=Hd hQ;have m4:=hx.cells.1;have l1:=hx.lt;have l2:=xbl w _ hv;have l3:=xbl w _ c0;obtain⟨ci,i1,i2,i3,i4⟩:=Kj;have HI:=Hd (am i1 (am i2 (am i3 i4)));clear hx hQ i1 i2 i3 i4;rw[Gp];unfold cg1;simp only[Tryz.f50,Option.getD,rg,q37,upd,cg,if_true,if_false];go_region_law (refine qjx _ rfl (.tmp 100) (.tmp 102) 75 rfl 109 ci _ 3 40 underlying75 HI.1 HI.2.1 HI.2.2.1 HI.2.2.2 rfl cv m.cs.length (jM m.cs) rfl (HX.r.block λb hb=>aI w _ (jr.lt HX.r hb)) ⟨w.heap.size,0,none⟩ 1 [.string k,.string v,.bool g] rfl rfl (cells3 w _ _ _ _) (by intro u hu;simp at hu;rcases hu with rfl|rfl|rfl<;>rfl) (by unfold aU;omega) (by omega) _ rfl ?_;intro gb off cap w3 hr hg oo;rw[<-qI k,<-qI v]at hr;have H3:=Hd (MX.appO (c:=Gh k v g) HX.o _ rfl hg hr oo rfl);obtain⟨d3,e3,_⟩:=H3.o;have f3:=(xcb (a:=⟨cl,1+n*3+2,none⟩) (w:=w) ((hg.block cl (by simp;exact Nat.lt_succ_of_lt l2) λe=>lY e.symm).trans (aI w _ l2))).trans hv;clear hr hg oo);all_goals exact q9m rfl (HQ.o _ _ _ H3.2.2.1 H3.2.2.2.1 H3.2.2.2.2)
end
end Go.Proofs.YtkpekiajdlolnaaGreat.Ph
namespace Go.Proofs
open Go.RowKit Go.Maps Go.Sort Go.Shelf
def Tryz.keysOf_ren:Go.Shelf.Ren:=⟨fun|7=>90|10=>123|n=>n,fun|23=>128|26=>9|3=>163|28=>167|0=>0|27=>166|33=>48|4=>4|n=>n,fun|n=>n⟩
theorem Tryz.keysOf:Go.Proofs.SlLaysZ.n7 prog Tryz.keysOf_ren:={
 mixed:=by kernel_rfl
 f7:=⟨Tryz.f90.name,by decide,func90.trans (congrArg some (by kernel_rfl))⟩
 f10:=⟨Tryz.f123.name,by decide,func123.trans (congrArg some (by kernel_rfl))⟩
 t0:=underlying0
 a0:=Tryz.isAgg0
 z0:=Tryz.sizeOf0
 v0:=Tryz.zeroValue0
 t4:=underlying4
 a4:=Tryz.isAgg4
 z4:=Tryz.sizeOf4
 v4:=Tryz.zeroValue4
 t23:=underlying128
 a23:=Tryz.isAgg128
 z23:=Tryz.sizeOf128
 v23:=Tryz.zeroValue128
 t26:=underlying9
 a26:=Tryz.isAgg9
 z26:=Tryz.sizeOf9
 v26:=Tryz.zeroValue9
 t27:=underlying166
 a27:=Tryz.isAgg166
 z27:=Tryz.sizeOf166
 v27:=Tryz.zeroValue166
 t28:=underlying167
 a28:=Tryz.isAgg167
 z28:=Tryz.sizeOf167
 v28:=Tryz.zeroValue167
 t33:=underlying48
 a33:=Tryz.isAgg48
 z33:=Tryz.sizeOf48
 v33:=Tryz.zeroValue48}
def Tryz.sortedOf_ren:Go.Shelf.Ren:=⟨fun|6=>89|8=>121|9=>122|11=>138|13=>140|12=>139|23=>154|24=>155|14=>145|15=>146|16=>147|17=>148|18=>149|19=>150|20=>151|21=>152|22=>153|25=>157|26=>158|27=>159|28=>160|29=>161|30=>162|31=>163|n=>n,fun|26=>9|28=>167|24=>51|0=>0|3=>3|37=>122|48=>120|50=>139|4=>4|40=>227|39=>226|45=>57|5=>5|9=>9|51=>234|55=>237|57=>239|58=>240|33=>48|n=>n,fun|n=>n⟩
theorem Tryz.sortedOf:Go.Proofs.SlLaysZ.n6 prog Tryz.sortedOf_ren:={
 mixed:=by kernel_rfl
 f6:=⟨Tryz.f89.name,by decide,func89.trans (congrArg some (by kernel_rfl))⟩
 f8:=⟨Tryz.f121.name,by decide,func121.trans (congrArg some (by kernel_rfl))⟩
 f11:=⟨Tryz.f138.name,by decide,func138.trans (congrArg some (by kernel_rfl))⟩
 t0:=underlying0
 a0:=Tryz.isAgg0
 z0:=Tryz.sizeOf0
 v0:=Tryz.zeroValue0
 t24:=underlying51
 a24:=Tryz.isAgg51
 z24:=Tryz.sizeOf51
 v24:=Tryz.zeroValue51
 t26:=underlying9
 a26:=Tryz.isAgg9
 z26:=Tryz.sizeOf9
 v26:=Tryz.zeroValue9
 t28:=underlying167
 a28:=Tryz.isAgg167
 z28:=Tryz.sizeOf167
 v28:=Tryz.zeroValue167
 i26:=by kernel_rfl}
def Tryz.sortOf_ren:Go.Shelf.Ren:=⟨fun|6=>122|8=>140|9=>139|19=>154|20=>155|21=>145|22=>146|23=>147|24=>148|25=>149|26=>150|27=>151|28=>152|29=>153|36=>157|31=>158|32=>159|37=>160|38=>161|39=>162|41=>163|n=>n,fun|27=>51|29=>9|3=>3|32=>122|26=>51|0=>0|44=>120|46=>139|4=>4|36=>227|35=>226|41=>57|5=>5|9=>9|53=>234|57=>237|63=>239|64=>240|n=>n,fun|n=>n⟩
theorem Tryz.sortOf:Go.Proofs.SlLaysM.n6 prog Tryz.sortOf_ren:={
 mixed:=by kernel_rfl
 f6:=⟨Tryz.f122.name,by decide,func122.trans (congrArg some (by kernel_rfl))⟩
 f8:=func140.trans (congrArg some (by kernel_rfl))
 f9:=⟨Tryz.f139.name,by decide,func139.trans (congrArg some (by kernel_rfl))⟩
 f19:=func154.trans (congrArg some (by kernel_rfl))
 f20:=func155.trans (congrArg some (by kernel_rfl))
 f21:=⟨Tryz.f145.name,by decide,func145.trans (congrArg some (by kernel_rfl))⟩
 f22:=⟨Tryz.f146.name,by decide,func146.trans (congrArg some (by kernel_rfl))⟩
 f23:=⟨Tryz.f147.name,by decide,func147.trans (congrArg some (by kernel_rfl))⟩
 f24:=⟨Tryz.f148.name,by decide,func148.trans (congrArg some (by kernel_rfl))⟩
 f25:=⟨Tryz.f149.name,by decide,func149.trans (congrArg some (by kernel_rfl))⟩
 f26:=⟨Tryz.f150.name,by decide,func150.trans (congrArg some (by kernel_rfl))⟩
 f27:=⟨Tryz.f151.name,by decide,func151.trans (congrArg some (by kernel_rfl))⟩
 f28:=⟨Tryz.f152.name,by decide,func152.trans (congrArg some (by kernel_rfl))⟩
 f29:=⟨Tryz.f153.name,by decide,func153.trans (congrArg some (by kernel_rfl))⟩
 f31:=func158.trans (congrArg some (by kernel_rfl))
 f32:=func159.trans (congrArg some (by kernel_rfl))
 f36:=⟨Tryz.f157.name,by decide,func157.trans (congrArg some (by kernel_rfl))⟩
 f37:=⟨Tryz.f160.name,by decide,func160.trans (congrArg some (by kernel_rfl))⟩
 f38:=⟨Tryz.f161.name,by decide,func161.trans (congrArg some (by kernel_rfl))⟩
 f39:=⟨Tryz.f162.name,by decide,func162.trans (congrArg some (by kernel_rfl))⟩
 f41:=⟨Tryz.f163.name,by decide,func163.trans (congrArg some (by kernel_rfl))⟩
 t0:=underlying0
 a0:=Tryz.isAgg0
 z0:=Tryz.sizeOf0
 v0:=Tryz.zeroValue0
 t3:=underlying3
 a3:=Tryz.isAgg3
 z3:=Tryz.sizeOf3
 v3:=Tryz.zeroValue3
 t4:=underlying4
 a4:=Tryz.isAgg4
 z4:=Tryz.sizeOf4
 v4:=Tryz.zeroValue4
 t5:=underlying5
 a5:=Tryz.isAgg5
 z5:=Tryz.sizeOf5
 v5:=Tryz.zeroValue5
 t9:=underlying9
 a9:=Tryz.isAgg9
 z9:=Tryz.sizeOf9
 v9:=Tryz.zeroValue9
 t26:=underlying51
 a26:=Tryz.isAgg51
 z26:=Tryz.sizeOf51
 v26:=Tryz.zeroValue51
 t27:=underlying51
 a27:=Tryz.isAgg51
 z27:=Tryz.sizeOf51
 v27:=Tryz.zeroValue51
 t29:=underlying9
 a29:=Tryz.isAgg9
 z29:=Tryz.sizeOf9
 v29:=Tryz.zeroValue9
 t32:=underlying122
 a32:=Tryz.isAgg122
 z32:=Tryz.sizeOf122
 v32:=Tryz.zeroValue122
 t35:=underlying226
 a35:=Tryz.isAgg226
 z35:=Tryz.sizeOf226
 v35:=Tryz.zeroValue226
 t36:=underlying227
 a36:=Tryz.isAgg227
 z36:=Tryz.sizeOf227
 v36:=Tryz.zeroValue227
 t41:=underlying57
 a41:=Tryz.isAgg57
 z41:=Tryz.sizeOf57
 v41:=Tryz.zeroValue57
 t44:=underlying120
 a44:=Tryz.isAgg120
 z44:=Tryz.sizeOf120
 v44:=Tryz.zeroValue120
 t46:=underlying139
 a46:=Tryz.isAgg139
 z46:=Tryz.sizeOf139
 v46:=Tryz.zeroValue139
 t53:=underlying234
 a53:=Tryz.isAgg234
 z53:=Tryz.sizeOf234
 v53:=Tryz.zeroValue234
 t57:=underlying237
 a57:=Tryz.isAgg237
 z57:=Tryz.sizeOf237
 v57:=Tryz.zeroValue237
 t63:=underlying239
 a63:=Tryz.isAgg239
 z63:=Tryz.sizeOf239
 v63:=Tryz.zeroValue239
 t64:=underlying240
 a64:=Tryz.isAgg240
 z64:=Tryz.sizeOf240
 v64:=Tryz.zeroValue240}
theorem Tryz.sorts_of (m:Nat):AnyZ.SortsIn prog Tryz.sortedOf_ren Fence.wide m:=
 ⟨λblk off cap ss W hH hblk eY=>callsIn_wide.2 (AnyM.slices_Sort_string Tryz.sortOf blk off cap ss W hH hblk eY),
  λp cap W=>callsIn_wide.2 (AnyM.slices_Sort_string_none Tryz.sortOf p cap W)⟩
theorem Tryz.maps_keys (mb:Option Nat) (W:ac):aK prog 90 #[.map mb] W λe w'=>e=.returned (.func (.func 123) #[] #[.pointer (some ⟨W.heap.size,0,none⟩)])/\w'=W.alloc (.cells #[.map mb] 128):=
 callsIn_wide.1 (AnyZ.keys_in Tryz.keysOf Fence.wide 5 trivial rfl mb W)
theorem Tryz.slices_sorted {H:Type} (b nn:Nat) (D0:DataW H) (R:aa->Option (DataW H×List MemPlace)) (w:ac) (fE:w.ownsMap prog 9 R b nn D0) (Ow:Maps.size D0<=aU) (iW:Maps.size D0*16<=140737488355328):
  aK prog 89 #[.func (.func 123) #[] #[.pointer (some ⟨w.heap.size,0,none⟩)]] (w.alloc (.cells #[.map (some b)] 128)) λe w'=>∃(v:aa) (ss:List (List UInt8)),e=.returned v/\ss.Perm (strKeys D0)/\
   w'.ownsRow (w.alloc (.cells #[.map (some b)] 128)).heap.size 9 1 v ss.length ((ss.mergeSort (λx y=>decide (x<=y))).map encStr)/\(v=.slice none 0 0↔ss=[])/\aA (w.alloc (.cells #[.map (some b)] 128)).heap.size (w.alloc (.cells #[.map (some b)] 128)) w':=by
 refine(callsIn_wide (n:=5)).1 ?_;have iT:=fE.lt;have Oe:SeqGives Fence.wide 2 prog 123 #[.pointer (some ⟨w.heap.size,0,none⟩)] encStr (λss=>ss.Perm (strKeys D0)) (Maps.size D0) (w.alloc (.cells #[.map (some b)] 128)):=
  AnyZ.keys_gives (ρ:=Tryz.keysOf_ren) {Tryz.keysOf with} Fence.wide _ trivial rfl (by omega) w.heap.size b nn D0 _ (by simp) (by simp) (by
   obtain⟨es,clock,hb,Ft,hs,hD⟩:=fE
   exact⟨es,clock,(Below.heap_alloc _ _ b iT).trans hb,Ft,hs,hD⟩)
 exact AnyZ.sorted_in Tryz.sortedOf Fence.wide 5 trivial trivial trivial trivial rfl (by omega) (Tryz.sorts_of _) (enters_of func122 (by kernel_rfl) rfl) 123 #[.pointer (some ⟨w.heap.size,0,none⟩)] trivial (enters_of func123 (by kernel_rfl) rfl) _ _ Ow iW _ Oe
end Go.Proofs
namespace Go.Proofs.YtkpekiajdlolnaaGreat
open Go.RowKit Go.Maps Go.Sort
theorem q33 (L:KV):strKeys (DM L)=L.map (·.1):=by
 show List.map _ (List.map _ L)=_;rw[List.map_map];rfl
theorem jcf (a b:Bs):bC a b=decide (a<b):=by rw[<-Ar,bytesLess_eq]
theorem ZB (h:j4 L) {ss:List Bs} (hp:ss.Perm (L.map (·.1))):ss.mergeSort (λx y=>decide (x<=y))=L.map (·.1):=by
 rw[mergeSort_of_perm hp];refine List.mergeSort_of_pairwise ?_;rw[List.pairwise_map];refine List.Pairwise.imp ?_ h;intro a b gJ;rw[jcf]at gJ;exact xdt (List.le_of_lt (of_decide_eq_true gJ))
theorem Xi (hm:jh w mb L) (s:ByteArray) (hs:s.size<=aU):(Instr.lookup 128 (.map (some mb)) (.string s) false).run prog w=.ok (.agg #[sv ((qz L s.data.toList).getD [])]) w:=by
 have fE:=hm;obtain⟨v,ps,eT,hv⟩:=fE.lookup (string_keyed underlying9) underlying128 (Qf w) (zd:=ev []) (zp:=[]) rfl (Gs s hs);rw[Ru]at hv;have:Rv v=some (ev ((qz L s.data.toList).getD []),ps):=by
  rw[hv];cases qz L s.data.toList<;>rfl
 rw[eT,Qe this]
theorem RP (pv:ByteArray) (w:ac):(Instr.field 163 (.agg #[.string pv]) 0).run prog w=.ok (.string pv) w:=by kernel_rfl
theorem jd6 (h:j4 L) {p:Bs×Bs} (hp:L[j]?=some p):qz L p.1=some p.2:=by
 have uR:p∈L:=aL hp;clear hp;unfold qz;induction L with
 |nil=>cases uR
 |cons q L ih=>
  obtain⟨h1,h2⟩:=bR.1 h;rw[List.find?_cons];rcases bQ.1 uR with rfl|hm
  ·simp
  ·rw[D8 (h1 p hm)];exact ih h2 hm
def K7 (w:ac) (L:KV) (e:cw) (w':ac):Prop:= ∃v,e=.returned v/\jH w' w.heap.size v L/\aA w.heap.size w w'
theorem Ty {p:Bs×Bs} (f:Bs×Bs->Bool) (hp:L[j]?=some p):(L.take (j+1)).filter f=(L.take j).filter f++(if f p then[p]else[]):=by
 obtain⟨hj,rfl⟩:=aP.1 hp;rw[aV hj,List.filter_append,List.filter_cons,List.filter_nil]
section
variable {w:ac} {db mb:Nat} {L:KV}
structure PrW (W:ac) (db mb:Nat) (L:KV) (s t:Bs) (j:Nat) (out:aa) (w:ac):Prop where
 row:jH w W.heap.size out ((L.take j).filter (inB s t))
 below:aA W.heap.size W w
theorem PrW.app {W:ac} {s t:Bs} {out:aa} {p:Bs×Bs} (h:PrW W db mb L s t j out w) (hp:L[j]?=some p) (gX:inB s t p=true) {v':aa} (iI:aA W.heap.size W w1) (I7:w1.ownsRow W.heap.size 62 2 out ((L.take j).filter (inB s t)).length (flat ((L.take j).filter (inB s t)))) (hg:w1.grownBy w2 out.ownBlock)
  (hr:w2.ownsRow W.heap.size 62 2 v' (((L.take j).filter (inB s t)).length+1) (flat ((L.take j).filter (inB s t))++[sv p.1,sv p.2])) (ha:kP w2 v'):PrW W db mb L s t (j+1) v' w2:=by
 refine⟨?_,yu iI hg I7 (jd _) iI.size⟩;rw[Ty _ hp,gX,if_pos rfl];exact Gx hr ha (jd _) (by rw[wR];rfl)
theorem PrW.skip {W:ac} {s t:Bs} {out:aa} {p:Bs×Bs} (h:PrW W db mb L s t j out w) (hp:L[j]?=some p) (gX:inB s t p=false):PrW W db mb L s t (j+1) out w:=by
 refine⟨?_,h.below⟩;rw[Ty _ hp,gX];simpa using h.row
theorem sorted_at (hm:jh w mb L) (ny:j4 L) (hL:L.length<=12):
  aK prog 89 #[.func (.func 123) #[] #[.pointer (some ⟨w.heap.size,0,none⟩)]] (w.alloc (.cells #[.map (some mb)] 128)) λe w'=>
   ((L=[]/\e=.returned (.slice none 0 0))\/∃kb cap,L≠[]/\e=.returned (.slice (some ⟨kb,0,none⟩) L.length cap)/\∀j (p:Bs×Bs),L[j]?=some p->w'.cell? ⟨kb,j,none⟩=some (sv p.1))/\aA w.heap.size w w':=by
 refine(Tryz.slices_sorted mb L.length (DM L) Rv w hm (by rw[Gv];unfold aU;omega) (by rw[Gv];omega)).mono ?_;rintro e w' ⟨kv,ss,rfl,hp,hr,hn,hb⟩;have fP:aA w.heap.size w w':=((j5 _ w).alloc (jd _) _).trans (hb.mono (by simp));rw[q33]at hp;have hlen:ss.length=L.length:=by rw[hp.length_eq,co]
 rw[ZB ny hp]at hr;refine⟨?_,fP⟩;by_cases he:L=[]
 ·have:ss=[]:=bk (by rw[hlen,he];rfl);exact .inl ⟨he,by rw[hn.2 this]⟩
 ·rcases hr.2 with⟨_,hz⟩|⟨kb,cap,cur,kZ,_⟩
  ·exact absurd (bk (by omega)) he
  ·refine .inr ⟨kb,cap,he,by rw[kZ,hlen],λj p hj=>?_⟩;have h1:((L.map (·.1)).map encStr)[j]?=some (sv p.1):=by rw[bd,bd,hj];rfl
   have h2:=hr.cells (g:=kb) (by rw[kZ];rfl) _ _ h1;rwa [bm,aW]at h2
theorem X6 (hd:w.cell? ⟨db,0,none⟩=some (.map (some mb))) (hm:jh w mb []) (s t:ByteArray):
  aK prog 53 #[.pointer (some ⟨db,0,none⟩),.string s,.string t] w (K7 w []):=by
 have HS:=Hd (sorted_at hm List.Pairwise.nil (by decide));clear hm;go_enter func53,ntmps53;go_wp2_with (first
  |(go_at_call 90;refine(Tryz.maps_keys _ _).mono ?_;rintro e w' ⟨rfl,rfl⟩)
  |(go_at_call 89;refine(HS.mono λe w' h=>(show(e=.returned (.slice none 0 0))/\aA w.heap.size w w' from⟨h.1.elim (·.2) (λ⟨_,_,h,_⟩=>(h rfl).elim),h.2⟩)).mono ?_;rintro e w2 ⟨rfl,fO⟩;have HB:=Hd fO;clear fO))
 refine wp_loop_rounds 1 ?_;rw[rounds_succ];go_wp2;go_ret;exact⟨_,rfl,⟨bD _ _ _ _,kP.nil _⟩,HB.o⟩
theorem YZ (eG:L≠[]) (hd:w.cell? ⟨db,0,none⟩=some (.map (some mb))) (hm:jh w mb L) (ny:j4 L) (hL:L.length<=12) (iD:∀p∈L,p.1.length<=aU) (s t:ByteArray):
  aK prog 53 #[.pointer (some ⟨db,0,none⟩),.string s,.string t] w (K7 w (L.filter (inB s.data.toList t.data.toList))):=by
 have HS:=Hd (sorted_at hm ny hL);have HM:=Hd hm;have HR:=Hd ny;have HK:=Hd iD;have HN:=Hd eG;clear hm ny iD eG;go_enter func53,ntmps53;go_wp2_with (first
  |(go_at_call 90;refine(Tryz.maps_keys _ _).mono ?_;rintro e w' ⟨rfl,rfl⟩)
  |(go_at_call 89;refine(HS.mono λe w' h=>(show(∃kb cap,e=.returned (.slice (some ⟨kb,0,none⟩) L.length cap)/\∀j (p:Bs×Bs),L[j]?=some p->w'.cell? ⟨kb,j,none⟩=some (sv p.1))/\aA w.heap.size w w' from⟨h.1.elim (λh=>(HN.o h.1).elim) (λ⟨kb,cap,_,h⟩=>⟨kb,cap,h⟩),h.2⟩)).mono ?_;rintro e w2 ⟨⟨kb,cap,rfl,vO⟩,fO⟩;have HC:=Hd vO;have HB:=Hd fO;clear vO fO))
 go_loopw [7,17] (λout i wr=>∃j:Nat,j<=L.length/\i=.int .i64 j/\Hid (PrW w2 db mb L s.data.toList t.data.toList j out wr)) (λ_ i _=>L.length-(intOf i).toNat);case atStart=>exact⟨0,xzl _,rfl,Hd ⟨⟨bD _ _ _ _,kP.nil _⟩,j5 _ _⟩⟩
 case round=>
  obtain⟨j,hj,rfl,HP⟩:=hrel;have V7:Hid (((L.take j).filter (inB s.data.toList t.data.toList)).length+1<=1073741824):=by
   have h1:=bh (inB s.data.toList t.data.toList) (L.take j);rw[aH]at h1;show _<=_;omega
  by_cases jO:j<L.length
  ·obtain⟨p,hp⟩:∃p,L[j]?=some p:=⟨_,aF jO⟩
   have Bp:=HC.o j p hp;have vO:=(HP.below.cell (xbl _ _ Bp)).trans Bp;have qU:aA w.heap.size w wr:=HB.trans (HP.below.mono HB.size);have hdr:=(qU.cell (xbl _ _ hd)).trans hd;have uR:p∈L:=aL hp;have rU:=Xi (HM.block (qU.block mb HM.lt)) ⟨p.1.toArray⟩ (by have:=HK.o p uR;simpa[bq]using this);rw[show(⟨p.1.toArray⟩:ByteArray).data.toList=p.1 by simp,jd6 HR.o hp,bi]at rU;have e1:bg (⟨p.1.toArray⟩:ByteArray).toList s.toList=bC p.1 s.data.toList:=by rw[Ar,az,az]
   have e2:bg (⟨p.1.toArray⟩:ByteArray).toList t.toList=bC p.1 t.data.toList:=by rw[Ar,az,az]
   have e3:t.toList.isEmpty=t.data.toList.isEmpty:=by rw[az]
   have xZ:inB s.data.toList t.data.toList p=(!bg (⟨p.1.toArray⟩:ByteArray).toList s.toList&&(t.toList.isEmpty||bg (⟨p.1.toArray⟩:ByteArray).toList t.toList)):=by rw[e1,e2,e3];rfl
   clear Bp qU uR e1 e2 e3;cases g1:bg (⟨p.1.toArray⟩:ByteArray).toList s.toList
   ·cases g2:t.toList.isEmpty
    ·cases g3:bg (⟨p.1.toArray⟩:ByteArray).toList t.toList
     ·have gX:inB s.data.toList t.data.toList p=false:=by rw[xZ,g1,g2,g3];rfl
      clear xZ;have NK:=Hd (HP.skip hp gX);unfold sv at vO rU;generalize (⟨p.1.toArray⟩:ByteArray)=pk at*;generalize (⟨p.2.toArray⟩:ByteArray)=pv at*;clear gX hp;go_wp2;go_roundw;case rel=>exact⟨j+1,by omega,rfl,NK.o⟩
      case measure=>simp[intOf];omega
     ·have gX:inB s.data.toList t.data.toList p=true:=by rw[xZ,g1,g2,g3];rfl
      clear xZ;have DZ:=Hd (λv' w1 w3=>HP.app (v':=v') (w1:=w1) (w2:=w3) hp gX);unfold sv at DZ vO rU;generalize (⟨p.1.toArray⟩:ByteArray)=pk at*;generalize (⟨p.2.toArray⟩:ByteArray)=pv at*;clear gX hp;have hfd:=RP pv;go_wp2_with (at_builtin;refine zy (v:=u7) rfl (.tmp 33) (.tmp 43) rfl rfl rfl (HP.row.1.alloc _) (HP.row.2.alloc _) (Src.one wr pk pv _) V7.o (xlt HP.below.size (by simp)) ?_;intro v3 w3 gT qJ qQ;have NP:=Hd (DZ.out v3 _ w3 (HP.below.alloc HP.below.size _) (HP.row.1.alloc _) qQ gT qJ);clear gT qJ qQ)
      go_roundw;case rel=>exact⟨j+1,by omega,rfl,NP⟩
      case measure=>simp[intOf];omega
    ·have gX:inB s.data.toList t.data.toList p=true:=by rw[xZ,g1,g2];rfl
     clear xZ;have DZ:=Hd (λv' w1 w3=>HP.app (v':=v') (w1:=w1) (w2:=w3) hp gX);unfold sv at DZ vO rU;generalize (⟨p.1.toArray⟩:ByteArray)=pk at*;generalize (⟨p.2.toArray⟩:ByteArray)=pv at*;clear gX hp;have hfd:=RP pv;go_wp2_with (at_builtin;refine zy (v:=u7) rfl (.tmp 33) (.tmp 43) rfl rfl rfl (HP.row.1.alloc _) (HP.row.2.alloc _) (Src.one wr pk pv _) V7.o (xlt HP.below.size (by simp)) ?_;intro v3 w3 gT qJ qQ;have NP:=Hd (DZ.out v3 _ w3 (HP.below.alloc HP.below.size _) (HP.row.1.alloc _) qQ gT qJ);clear gT qJ qQ)
     go_roundw;case rel=>exact⟨j+1,by omega,rfl,NP⟩
     case measure=>simp[intOf];omega
   ·have gX:inB s.data.toList t.data.toList p=false:=by rw[xZ,g1];rfl
    clear xZ;have NK:=Hd (HP.skip hp gX);unfold sv at vO rU;generalize (⟨p.1.toArray⟩:ByteArray)=pk at*;generalize (⟨p.2.toArray⟩:ByteArray)=pv at*;clear gX hp;go_wp2;go_roundw;case rel=>exact⟨j+1,by omega,rfl,NK.o⟩
    case measure=>simp[intOf];omega
  ·obtain rfl:j=L.length:=by omega
   have HE:=Hd HP.row;rw[bX]at HE;go_wp2;go_ret;exact⟨_,rfl,Gx HE.1 HE.2 HB.size rfl,HB.trans (HP.below.mono HB.size)⟩
theorem Qp (hd:w.cell? ⟨db,0,none⟩=some (.map (some mb))) (hm:jh w mb L) (ny:j4 L) (hL:L.length<=12) (iD:∀p∈L,p.1.length<=aU) (s t:ByteArray):
  aK prog 53 #[.pointer (some ⟨db,0,none⟩),.string s,.string t] w (K7 w (L.filter (inB s.data.toList t.data.toList))):=by
 by_cases eG:L=[]
 ·subst eG;exact X6 hd hm s t
 ·exact YZ eG hd hm ny hL iD s t
end
end Go.Proofs.YtkpekiajdlolnaaGreat
namespace Go.Proofs.YtkpekiajdlolnaaGreat.Ph
open Go.Conc Go.ConcN Go.RowKit Go.Maps Go.Conc.Lib Go Sim
section
variable {e:aO->aa} {o:Oper} {p q r s:aO} {v:aa} {g f k:Nat} {w:ac} {i j l:Int} {sa:Option Addr} {n cp:Nat}
theorem q1i (h:o.op=.fieldAddr 70 p 3) (hp:e p=.pointer (some ⟨g,0,none⟩)):(aq e o).run prog w=.ok (.value (.pointer (some ⟨g,14,none⟩))) w:=by
 have hu:=underlying70;unfold aq;simp[go_sem,h,hp,hu]
theorem Zc (h:o.op=.build 80 #[(0,p),(1,q),(2,r),(3,s)]) (hp:e p=.int .i64 i) (hq:e q=.int .i64 j) (hr:e r=.int .i64 l) (hs:e s=.slice sa n cp):(aq e o).run prog w=.ok (.value (.agg #[.int .i64 i,.int .i64 j,.int .i64 l,.slice sa n cp,.slice none 0 0,.int .u8 0,.int .i64 0,.int .i64 0,.int .i64 0,.string ⟨#[]⟩,.string ⟨#[]⟩,.int .i64 0,.bool false])) w:=by
 unfold aq;simp[go_sem,h,hp,hq,hr,hs]
theorem q1h {i j l:Int} {sa:Option Addr} {n cp:Nat} (h:o.op=.box 80 p) (hp:e p=.agg #[.int .i64 i,.int .i64 j,.int .i64 l,.slice sa n cp,.slice none 0 0,.int .u8 0,.int .i64 0,.int .i64 0,.int .i64 0,.string ⟨#[]⟩,.string ⟨#[]⟩,.int .i64 0,.bool false]):(aq e o).run prog w=.ok (.value (.pointer (some ⟨w.heap.size,0,none⟩))) (w.alloc (.cells #[.int .i64 i,.int .i64 j,.int .i64 l,.slice sa n cp,.slice none 0 0,.int .u8 0,.int .i64 0,.int .i64 0,.int .i64 0,.string ⟨#[]⟩,.string ⟨#[]⟩,.int .i64 0,.bool false] 80)):=by
 have hA:=Tryz.isAgg80;unfold aq;simp[go_sem,h,hp,hA]
theorem XV {o:Oper} {p q r:aO} {f:FuncId} {ty:Array aS} {u v x:aa} {fn:Func} {w:ac} (h:o.op=.call {callee:=.value (.func f),args:=#[p,q,r],argTypes:=ty}) (hp:a.eval p=u) (hq:a.eval q=v) (hr:a.eval r=x) (hf:prog.funcs[f]?=some fn) (jY:(fn.name== "runtime.NumGoroutine")=false) (hb:fn.body.isNone=false):(aq a.eval o).run prog w=.ok (.enter f #[u,v,x]) w:=by
 rw[run_call_body h hf jY hb];simp[hp,hq,hr]
theorem q3x (L:KV):L.filter (inB [] [])=L:=by
 rw[List.filter_eq_self];intro p _;have e:bC p.1 []=false:=by cases p.1<;>rfl
 simp[inB,e]
end
noncomputable def bg1:Array Oper:=match Tryz.f35.body with
 |some (.seq _ (.seq a _))=>rg a
 |_=>#[]
theorem jd9 (y:Nat->aa):lay 46 y=#[y 0,y 1,y 2,y 3,y 4,y 5,y 6,y 7,y 8,y 9,y 10,y 11,y 12,y 13,y 14,y 15,y 16,y 17,y 18,y 19,y 20,y 21,y 22,y 23,y 24,y 25,y 26,y 27,y 28,y 29,y 30,y 31,y 32,y 33,y 34,y 35,y 36,y 37,y 38,y 39,y 40,y 41,y 42,y 43,y 44,y 45]:=rfl
noncomputable def bgo (k:Nat):Oper:=bg1.getD k ⟨none,.alloc 0,0, "",#[],none⟩
theorem q21:Ci bg1 46=true:=by kernel_rfl
section
variable {cl n db mb id ow to:Nat} {L:KV} {w0:ac}
def Kbg (cl n db id ow to:Nat) (L:KV) (w0:ac):Nat->aa->ac->Prop
 |0,u,_=>u=.pointer (some ⟨cl,1+n*3,none⟩)
 |1,u,_=>u=.pointer (some ⟨cl,0,none⟩)
 |2,u,_=>u=.pointer (some ⟨cl,0,none⟩)
 |3,u,_=>u=.pointer (some ⟨cl,14,none⟩)
 |4,u,_=>u=.int .i64 id
 |5,u,_=>u=.pointer (some ⟨cl,1+n*3,none⟩)
 |6,u,_=>u=.pointer (some ⟨cl,1+n*3,none⟩)
 |7,u,_=>u=.pointer (some ⟨cl,1+n*3,none⟩)
 |8,u,_=>u=.int .i64 ow
 |9,u,_=>u=.int .i64 to
 |10,u,_=>u=.pointer (some ⟨cl,1+n*3,none⟩)
 |11,u,_=>u=.pointer (some ⟨cl,1+n*3,none⟩)
 |12,u,_=>u=.pointer (some ⟨cl,1+n*3+1,none⟩)
 |13,u,_=>u=.pointer (some ⟨db,0,none⟩)
 |14,u,w=>∃s c,u=.slice s L.length c/\w.ownsRow w0.heap.size 62 2 u L.length (flat L)
 |15,u,w=>∃s c,u=.agg #[.int .i64 id,.int .i64 ow,.int .i64 to,(.slice s L.length c),.slice none 0 0,.int .u8 0,.int .i64 0,.int .i64 0,.int .i64 0,.string ⟨#[]⟩,.string ⟨#[]⟩,.int .i64 0,.bool false]/\w.ownsRow w0.heap.size 62 2 (.slice s L.length c) L.length (flat L)
 |16,u,w=>∃s c g,u=.pointer (some ⟨g,0,none⟩)/\w0.heap.size<=g/\w.heap[g]?=some (.cells #[.int .i64 id,.int .i64 ow,.int .i64 to,(.slice s L.length c),.slice none 0 0,.int .u8 0,.int .i64 0,.int .i64 0,.int .i64 0,.string ⟨#[]⟩,.string ⟨#[]⟩,.int .i64 0,.bool false] 80 (0,0))/\w.ownsRow w0.heap.size 62 2 (.slice s L.length c) L.length (flat L)
 |17,u,_=>u=.pointer (some ⟨cl,1+n*3,none⟩)
 |18,u,_=>u=.pointer (some ⟨cl,1+n*3+2,none⟩)
 |_,_,_=>True
theorem Sb (j:Nat) (u:aa) (w w':ac) (hb:aA w.heap.size w w') (h:Kbg cl n db id ow to L w0 j u w):Kbg cl n db id ow to L w0 j u w':=by
 match j,h with
 |0,h|1,h|2,h|3,h|4,h|5,h|6,h|7,h|8,h|9,h|10,h|11,h|12,h|13,h=>exact h
 |14,⟨s,c,h1,h2⟩=>exact⟨s,c,h1,je h2 λq hq=>hb.block q (h2.lt q hq).2⟩
 |15,⟨s,c,h1,h2⟩=>exact⟨s,c,h1,je h2 λq hq=>hb.block q (h2.lt q hq).2⟩
 |16,⟨s,c,g,h1,h2,h3,h4⟩=>exact⟨s,c,g,h1,h2,(hb.block g (kg h3).1).trans h3,je h4 λq hq=>hb.block q (h4.lt q hq).2⟩
 |17,h|18,h=>exact h
 |i+19,_=>trivial
theorem jcg (eY:a.tmps.size=46) (M6:a.defers=[]) (h0:a.tmps.getD 0 aX=.pointer (some ⟨cl,0,none⟩)) (h1:a.tmps.getD 1 aX=.pointer (some ⟨cl,1+n*3,none⟩)) (h3:a.tmps.getD 3 aX=.int .i64 to)
  (cI:w.cell? ⟨cl,14,none⟩=some (.int .i64 id)) (cO:w.cell? ⟨cl,1+n*3,none⟩=some (.int .i64 ow)) (cD:w.cell? ⟨cl,1+n*3+1,none⟩=some (.pointer (some ⟨db,0,none⟩))) (cV:∃v,w.cell? ⟨cl,1+n*3+2,none⟩=some v) (fV:w.frozen? ⟨cl,1+n*3+2,none⟩=false) (cm:w.cell? ⟨db,0,none⟩=some (.map (some mb))) (hm:jh w mb L) (ny:j4 L) (hL:L.length<=12) (iD:∀p∈L,p.1.length<=aU)
  (hQ:∀y w1 g s c,(∀s,(∀(j:Nat) o,bg1[j]?=some o->o.dst≠some s)->y s=a.tmps.getD s aX)->aA w.heap.size w w1->w.heap.size<=g->w1.heap[g]?=some (.cells #[.int .i64 id,.int .i64 ow,.int .i64 to,(.slice s L.length c),.slice none 0 0,.int .u8 0,.int .i64 0,.int .i64 0,.int .i64 0,.string ⟨#[]⟩,.string ⟨#[]⟩,.int .i64 0,.bool false] 80 (0,0))->w1.ownsRow w.heap.size 62 2 (.slice s L.length c) L.length (flat L)->Q .normal ⟨lay 46 y,[]⟩ (w1.setCell ⟨cl,1+n*3+2,none⟩ (.pointer (some ⟨g,0,none⟩)))):(aC 1 bg1 true).wp prog Q a w:=by
 have Mi:=xbl w _ cI;have ltd:=xbl w _ cm;refine qjy (n:=46) (x0:=λs=>a.tmps.getD s aX) (turn:=20) (KN:=Kbg cl n db id ow to L w) (J:=λ_ w1=>aA w.heap.size w w1) (by kernel_rfl) q21 ⟨_,?_,λ_=>rfl⟩ (br (j5 _ _)) ?_ ?_
 ·obtain⟨t,df⟩:=a;obtain rfl:df=[]:=M6;rw[Eh eY]
 ·intro j o d y w1 b hbt ho hd hy jg hJ;have old:∀q,q<w.heap.size->w1.heap[q]?=w.heap[q]?:=λq h1=>hJ.block q h1;have y0:y 0=.pointer (some ⟨cl,0,none⟩):=(hy 0 (rH (by kernel_rfl))).trans h0;have y1:y 1=.pointer (some ⟨cl,1+n*3,none⟩):=(hy 1 (rH (by kernel_rfl))).trans h1;have y3:y 3=.int .i64 to:=(hy 3 (rH (by kernel_rfl))).trans h3;match j,ho with
  |0,ho=>
   cases ho;cases hd;exact qi (run_move rfl (zb y1)) ⟨_,qd rfl,rfl,hJ,λ_ _ _ h=>h⟩
  |1,ho=>
   cases ho;cases hd;exact qi (run_move rfl (zb y0)) ⟨_,qd rfl,rfl,hJ,λ_ _ _ h=>h⟩
  |2,ho=>
   cases ho;cases hd;have k1:y 16=.pointer (some ⟨cl,0,none⟩):=jg 1 _ 16 rfl rfl (qo rfl);exact qi (Ay rfl (zb k1)) ⟨_,qd rfl,rfl,hJ,λ_ _ _ h=>h⟩
  |3,ho=>
   cases ho;cases hd;have k2:y 17=.pointer (some ⟨cl,0,none⟩):=jg 2 _ 17 rfl rfl (qo rfl);exact qi (q1i rfl (zb k2)) ⟨_,qd rfl,rfl,hJ,λ_ _ _ h=>h⟩
  |4,ho=>
   cases ho;cases hd;have k3:y 18=.pointer (some ⟨cl,14,none⟩):=jg 3 _ 18 rfl rfl (qo rfl);exact qi (ug (ty:=3) rfl (zb k3) (by simp[isAgg]) ((xcb (old cl Mi)).trans cI)) ⟨_,qd rfl,rfl,hJ,λ_ _ _ h=>h⟩
  |5,ho=>
   cases ho;cases hd;exact qi (run_move rfl (zb y1)) ⟨_,qd rfl,rfl,hJ,λ_ _ _ h=>h⟩
  |6,ho=>
   cases ho;cases hd;have k5:y 20=.pointer (some ⟨cl,1+n*3,none⟩):=jg 5 _ 20 rfl rfl (qo rfl);exact qi (Ay rfl (zb k5)) ⟨_,qd rfl,rfl,hJ,λ_ _ _ h=>h⟩
  |7,ho=>
   cases ho;cases hd;have k6:y 21=.pointer (some ⟨cl,1+n*3,none⟩):=jg 6 _ 21 rfl rfl (qo rfl);exact qi (LA 0 (by decide) rfl (zb k6)) ⟨_,qd rfl,rfl,hJ,λ_ _ _ h=>h⟩
  |8,ho=>
   cases ho;cases hd;have k7:y 22=.pointer (some ⟨cl,1+n*3,none⟩):=jg 7 _ 22 rfl rfl (qo rfl);exact qi (ug (ty:=3) rfl (zb k7) (by simp[isAgg]) ((xcb (old cl Mi)).trans cO)) ⟨_,qd rfl,rfl,hJ,λ_ _ _ h=>h⟩
  |9,ho=>
   cases ho;cases hd;exact qi (run_move rfl (zb y3)) ⟨_,qd rfl,rfl,hJ,λ_ _ _ h=>h⟩
  |10,ho=>
   cases ho;cases hd;exact qi (run_move rfl (zb y1)) ⟨_,qd rfl,rfl,hJ,λ_ _ _ h=>h⟩
  |11,ho=>
   cases ho;cases hd;have ni:y 25=.pointer (some ⟨cl,1+n*3,none⟩):=jg 10 _ 25 rfl rfl (qo rfl);exact qi (Ay rfl (zb ni)) ⟨_,qd rfl,rfl,hJ,λ_ _ _ h=>h⟩
  |12,ho=>
   cases ho;cases hd;have yU:y 26=.pointer (some ⟨cl,1+n*3,none⟩):=jg 11 _ 26 rfl rfl (qo rfl);exact qi (LA 1 (by decide) rfl (zb yU)) ⟨_,qd rfl,rfl,hJ,λ_ _ _ h=>h⟩
  |13,ho=>
   cases ho;cases hd;have yT:y 27=.pointer (some ⟨cl,1+n*3+1,none⟩):=jg 12 _ 27 rfl rfl (qo rfl);exact qi (ug (ty:=63) rfl (zb yT) (by simp[isAgg]) ((xcb (old cl Mi)).trans cD)) ⟨_,qd rfl,rfl,hJ,λ_ _ _ h=>h⟩
  |14,ho=>
   cases ho;cases hd;have AZ:y 28=.pointer (some ⟨db,0,none⟩):=jg 13 _ 28 rfl rfl (qo rfl);refine CG (XV rfl (zb AZ) rfl rfl func53 rfl rfl) (Qp ((xcb (old _ ltd)).trans cm) (hm.block (old _ hm.lt)) ny hL iD ⟨#[]⟩ ⟨#[]⟩) ?_;have he:L.filter (inB (⟨#[]⟩:ByteArray).data.toList (⟨#[]⟩:ByteArray).data.toList)=L:=q3x L;rw[he];rintro e w2 ⟨v,rfl,hr,hb⟩;obtain⟨s,c,rfl⟩:=XY hr;exact⟨_,rfl,_,qd rfl,⟨s,c,rfl,(Gx hr.1 hr.2 hJ.size rfl).1⟩,hJ.trans (hb.mono hJ.size),λi u _ h=>Sb i u _ _ hb h⟩
  |15,ho=>
   cases ho;cases hd;have k4:y 19=.int .i64 id:=jg 4 _ 19 rfl rfl (qo rfl);have k8:y 23=.int .i64 ow:=jg 8 _ 23 rfl rfl (qo rfl);have k9:y 24=.int .i64 to:=jg 9 _ 24 rfl rfl (qo rfl);obtain⟨s,c,vK,WC⟩:Kbg cl n db id ow to L w 14 (y 29) w1:=jg 14 _ 29 rfl rfl (qo rfl);exact qi (Zc rfl (zb k4) (zb k8) (zb k9) (zb vK)) ⟨_,qd rfl,⟨s,c,rfl,vK▸WC⟩,hJ,λ_ _ _ h=>h⟩
  |16,ho=>
   cases ho;cases hd;obtain⟨s,c,AY,Pt⟩:Kbg cl n db id ow to L w 15 (y 30) w1:=jg 15 _ 30 rfl rfl (qo rfl);have iT:aA w1.heap.size w1 (w1.alloc (.cells #[.int .i64 id,.int .i64 ow,.int .i64 to,(.slice s L.length c),.slice none 0 0,.int .u8 0,.int .i64 0,.int .i64 0,.int .i64 0,.string ⟨#[]⟩,.string ⟨#[]⟩,.int .i64 0,.bool false] 80)):=(j5 _ _).alloc (jd _) _;exact qi (q1h rfl (zb AY)) ⟨_,qd rfl,⟨s,c,w1.heap.size,rfl,hJ.size,bu _ _,je Pt λq hq=>iT.block q (Pt.lt q hq).2⟩,hJ.trans (iT.mono hJ.size),λi u _ h=>Sb i u _ _ iT h⟩
  |17,ho=>
   cases ho;cases hd;have k0:y 15=.pointer (some ⟨cl,1+n*3,none⟩):=jg 0 _ 15 rfl rfl (qo rfl);exact qi (Ay rfl (zb k0)) ⟨_,qd rfl,rfl,hJ,λ_ _ _ h=>h⟩
  |18,ho=>
   cases ho;cases hd;have AX:y 32=.pointer (some ⟨cl,1+n*3,none⟩):=jg 17 _ 32 rfl rfl (qo rfl);exact qi (LA 2 (by decide) rfl (zb AX)) ⟨_,qd rfl,rfl,hJ,λ_ _ _ h=>h⟩
  |19,ho=>
   obtain rfl:=xq (a:=bgo 19) rfl ho;exact absurd (show(bgo 19).dst=none from rfl) (by rw[hd];exact λe=>by cases e)
  |i+20,ho=>exact absurd ho (by rw[bK (show bg1.size<=i+20 by show 20<=i+20;omega)];exact λe=>by cases e)
 ·intro mm o y w1 MR ho hy hk hJ;obtain rfl:mm=19:=by
   have:mm+1=20:=MR;omega
  obtain rfl:=xq (a:=bgo 19) rfl ho;have ka:y 33=.pointer (some ⟨cl,1+n*3+2,none⟩):=hk 18 (bgo 18) 33 rfl rfl;obtain⟨s,c,g,kb,q1,q2,q3⟩:Kbg cl n db id ow to L w 16 (y 31) w1:=hk 16 (bgo 16) 31 rfl rfl;obtain⟨v0,cV⟩:=cV;have eB:=xbl w _ cV;have jA:w1.cell? ⟨cl,1+n*3+2,none⟩=some v0:=(xcb (hJ.block _ eB)).trans cV;have fK:w1.frozen? ⟨cl,1+n*3+2,none⟩=false:=(World.frozen?_of_block (hJ.block _ eB)).trans fV;have hr:(aq (Act.mk (lay 46 y) []).eval (bgo 19)).run prog w1=.ok .skip (w1.setCell ⟨cl,1+n*3+2,none⟩ (.pointer (some ⟨g,0,none⟩))):=by
   have e1:(Act.mk (lay 46 y) []).eval (.tmp 33)=.pointer (some ⟨cl,1+n*3+2,none⟩):=tmp (by decide) ka;have e2:(Act.mk (lay 46 y) []).eval (.tmp 31)=.pointer (some ⟨g,0,none⟩):=tmp (by decide) kb;have dZ:(bgo 19).op=.store 64 (.tmp 33) (.tmp 31):=rfl;have hu:=underlying64;generalize (Act.mk (lay 46 y) []).eval=ev at*;unfold aq;simp[go_sem,dZ,e1,e2,hu,isAgg,jA,fK]
  unfold Oper.wp;rw[hr];exact hQ y w1 g s c hy hJ q1 q2 q3
end
section
variable {w w':ac} {cl db mb x n:Nat} {L:KV} {pv cv:aa} {ld:ByteArray} {m:Mv}
theorem KJ {w4:ac} {k v:ByteArray} {g:Bool} {cv':aa} (he:nN L k.data.toList v.data.toList g=0/\chL L k.data.toList v.data.toList g=X) (hm:jh w3 mb X) (hx:MX x n pv cv ld m w3) (h3:But (· =mb) w w3)
  (h4:MX x n pv cv' ld {m with cs:=m.cs++[Gh k v g]} w4/\(∀b,cv'.ownBlock=some b->cv.ownBlock=some b\/w3.heap.size<=b)/\But (λq=>q=x\/cv.ownBlock=some q) w3 w4):
  Gw w mb x n pv cv ld m (chL L k.data.toList v.data.toList g) (csL L m.cs k v g) (nN L k.data.toList v.data.toList g) (.returned (.int .i64 0)) w4:=by
 unfold csL;rw[he.1,he.2,if_pos rfl];refine⟨rfl,hm.block (h4.2.2.keep _ hm.lt ?_),⟨cv',h4.1,λb hb=>(h4.2.1 b hb).imp id λe=>xlt h3.size e⟩,(h3.mono λb e=>.inl e).trans (h4.2.2.mono λb e=>.inr e)⟩;rintro(e|e)
 ·exact za hm hx.b e.symm
 ·obtain⟨c,hc⟩:=jr.ty hx.r e;exact za hm hc rfl
theorem ZL (k v:ByteArray) (g:Bool) (n:Nat) (hn:n<4) (hk:iL k.data.toList=true) (kU:q9 k.data.toList=n) (iD:k.size<=aU) (hL:L.length<=12) (hp:qN w cl n db mb (some ⟨x,0,none⟩) L) (hx:MX x n pv cv ld m w) (hs:m.sealed=false) (gI:m.cs.length<=1073741820) (lY:cv.ownBlock≠some cl):
  aK prog 50 #[.pointer (some ⟨cl,0,none⟩),.agg #[.string k,.string v,.bool g]] w (Gw w mb x n pv cv ld m (chL L k.data.toList v.data.toList g) (csL L m.cs k v g) (nN L k.data.toList v.data.toList g)):=by
 have Bc:((n:Int)<4):=by omega
 have HX:=Hd hx;have HS:=Hd hs;have NT:=Hd lY;clear hx hs lY;have HCB:Hid (cv.ownBlock≠some w.heap.size):=Hd λe=>absurd (jr.lt HX.r e) (Nat.lt_irrefl _);go_enter func50,ntmps50;go_wp2_with (go_at_call 51;refine(Ee _ _ hk).mono ?_;rintro e w1 ⟨rfl,hb⟩;rw[kU])
 obtain⟨jA,nG⟩:=ChW.of hp hb;clear hb hp;have FL:=Hd nG;have oU:=Hd (am jA (HX.below nG));obtain⟨c0,c1,c2,pd,pv',pm,pl⟩:=id jA;clear nG jA pl;go_region_held3 (λw'=>w'.cell? ⟨cl,1+n*3+1,none⟩=some (.pointer (some ⟨db,0,none⟩))/\w'.cell? ⟨w.heap.size,0,none⟩=some (.string k)/\Hid (ChM w.heap.size cl n db mb x pv cv ld m L k v g w'/\aA w.heap.size w w'))
  (first|exact⟨pd,c0,Hd ⟨⟨oU.1.drew,oU.2.below (br (j5 _ _))⟩,FL.drew⟩⟩|exact⟨(iG.1).1.d,(iG.1).1.c0,iG⟩)
  (first|(go_at_call 52;refine(Sk (by assumption) iD).mono ?_;rintro e w2 ⟨rfl,lm⟩;have iG:=Hd lm;clear lm))
 obtain⟨has,jQ⟩:∃b,(qz L k.data.toList).isSome=b:=⟨_,rfl⟩
 rw[jQ];have HF:=Hd jQ;clear jQ;generalize sv ((qz L k.data.toList).getD [])=gv;obtain⟨e0,e1,e2,ed,ev,em,el⟩:=iG.1.1;obtain⟨q1,q2,q3⟩:=iG.1.2.cells;rw[HS.o]at q2;have EL:=Hd el;clear el;by_cases jR:12<v.size
 ·have HE:=Hd (Qa (L:=L) (k:=k.data.toList) (g:=g) (v:=v.data.toList) (by simpa using jR));have g1:decide ((12:Int)<v.size)=true:=by simp;omega
  go_wp2;go_ret;unfold csL;rw[HE.1,HE.2,if_neg (by decide)];exact .idle iG.1.2 EL.o iG.2
 have HG:=Hd (J3 (L:=L) (k:=k.data.toList) (g:=g) (v:=v.data.toList) (by simpa using jR));rw[HF.o]at HG;have g1:decide ((12:Int)<v.size)=false:=by simp;omega
 cases g
 ·cases has
  ·by_cases oI:L.length=12
   ·have HE:=Hd (HG.1 rfl rfl oI);go_wp2_with (go_at_call 88;refine(Gn em EL.o).mono ?_;rintro e w' ⟨rfl,rfl⟩)
    go_ret;unfold csL;rw[HE.1,HE.2,if_neg (by decide)];exact .idle iG.1.2 EL.o iG.2
   ·have HE:=Hd (HG.2.1 rfl (.inr oI));go_wp2_with (go_at_call 88;refine(Gn em EL.o).mono ?_;rintro e w' ⟨rfl,rfl⟩)
    refine aN 5 (by kernel_rfl) (by kernel_rfl) ?_;change wpStill _ _ w2.drew (λa'=>wpList _ _ _ _ a' w2.drew) _ _;simp only[ag,bw,aR,bz];repeat still_step
    refine bO ?_;go_wp2_with (go_at_call 67;refine(Ef (w:=w2.drew) em (EL.block rfl) (by omega) k v iD).mono ?_;rintro e w3 ⟨rfl,nQ,fM⟩;have lD:=Hd (am (iG.1.1.drew.but fM nQ) ((iG.1.2.below (w':=w2.drew) (br (j5 _ _))).but (EL.block rfl) fM));have jL:=Hd ((But.of_below (B:=(· =mb)) iG.2).drew.trans fM);obtain⟨f0,f1,f2,fd,fv,fm,fl⟩:=lD.1;clear fl nQ fM)
    change bT _ (aC 16 cg1 true) _ _ _;refine J4 (cb:=w.heap.size) (k:=k) (v:=v) (g:=false) rfl rfl rfl lD.2 fv f0 f1 f2 NT.o gI λy w4 cv' yY zA iE=>?_;rw[Gp];have H4:=Hd (am yY (am zA iE));clear yY zA iE;go_wp2;go_ret;exact KJ HE.o lD.1.l lD.2 jL.o H4.o
  ·have HE:=Hd (HG.2.1 rfl (.inl rfl));go_wp2;refine aN 5 (by kernel_rfl) (by kernel_rfl) ?_;change wpStill _ _ w2.drew (λa'=>wpList _ _ _ _ a' w2.drew) _ _;simp only[ag,bw,aR,bz];repeat still_step
   refine bO ?_;go_wp2_with (go_at_call 67;refine(Ef (w:=w2.drew) em (EL.block rfl) (by omega) k v iD).mono ?_;rintro e w3 ⟨rfl,nQ,fM⟩;have lD:=Hd (am (iG.1.1.drew.but fM nQ) ((iG.1.2.below (w':=w2.drew) (br (j5 _ _))).but (EL.block rfl) fM));have jL:=Hd ((But.of_below (B:=(· =mb)) iG.2).drew.trans fM);obtain⟨f0,f1,f2,fd,fv,fm,fl⟩:=lD.1;clear fl nQ fM)
   change bT _ (aC 16 cg1 true) _ _ _;refine J4 (cb:=w.heap.size) (k:=k) (v:=v) (g:=false) rfl rfl rfl lD.2 fv f0 f1 f2 NT.o gI λy w4 cv' yY zA iE=>?_;rw[Gp];have H4:=Hd (am yY (am zA iE));clear yY zA iE;go_wp2;go_ret;exact KJ HE.o lD.1.l lD.2 jL.o H4.o
 ·cases has
  ·have HE:=Hd (HG.2.2.1 rfl rfl);go_wp2;go_ret;unfold csL;rw[HE.1,HE.2,if_neg (by decide)];exact .idle iG.1.2 EL.o iG.2
  ·have HE:=Hd (HG.2.2.2 rfl rfl);go_wp2;refine aN 5 (by kernel_rfl) (by kernel_rfl) ?_;change wpStill _ _ w2.drew (λa'=>wpList _ _ _ _ a' w2.drew) _ _;simp only[ag,bw,aR,bz];repeat still_step
   refine bO ?_;go_wp2_with (go_at_call 67;refine(JZ (w:=w2.drew) em (EL.block rfl) k v iD).mono ?_;rintro e w3 ⟨rfl,nQ,fM⟩;have lD:=Hd (am (iG.1.1.drew.but fM nQ) ((iG.1.2.below (w':=w2.drew) (br (j5 _ _))).but (EL.block rfl) fM));have jL:=Hd ((But.of_below (B:=(· =mb)) iG.2).drew.trans fM);obtain⟨f0,f1,f2,fd,fv,fm,fl⟩:=lD.1;clear fl nQ fM)
   change bT _ (aC 16 cg1 true) _ _ _;refine J4 (cb:=w.heap.size) (k:=k) (v:=v) (g:=true) rfl rfl rfl lD.2 fv f0 f1 f2 NT.o gI λy w4 cv' yY zA iE=>?_;rw[Gp];have H4:=Hd (am yY (am zA iE));clear yY zA iE;go_wp2;go_ret;exact KJ HE.o lD.1.l lD.2 jL.o H4.o
end
end Go.Proofs.YtkpekiajdlolnaaGreat.Ph
namespace Go.Proofs.YtkpekiajdlolnaaGreat
open Go.RowKit Go.Maps
section
variable {w w':ac} {F F':Nat->Prop} {A:PA} {s:St} {n:Nat}
def vv:Option Mv->Bool
 |none=>false
 |some m=>m.sealed
theorem kE.keep {m:Option Mv} (h:kE w F A i m) (k1:∀b cur,A.mp i=some b->w.heap[b]?=some (ax cur 80 (0,0))->w'.heap[b]?=w.heap[b]?) (k2:∀b cur,(A.pv i).ownBlock=some b->w.heap[b]?=some (ax cur 62 (0,0))->w'.heap[b]?=w.heap[b]?) (k3:∀b cur,(A.cv i).ownBlock=some b->w.heap[b]?=some (ax cur 109 (0,0))->w'.heap[b]?=w.heap[b]?):kE w' F A i m:=by
 cases m with
 |none=>exact h
 |some m=>
  obtain⟨g,h1,h2,h3,h4,h5,h6,h7⟩:=h;refine⟨g,h1,h2,(k1 g _ h1 h3).trans h3,h4.block λb hb=>?_,h5.block λb hb=>?_,h6,h7⟩
  ·obtain⟨c,hc⟩:=jr.ty h4 hb;exact k2 b _ hb hc
  ·obtain⟨c,hc⟩:=jr.ty h5 hb;exact k3 b _ hb hc
theorem jm.put (h:jm w F A s) (hn:n<4) (hb:But (· =A.mb n) w w') (hm:jh w' (A.mb n) X):jm w' F A {s with kv:=zh s.kv n X}:=by
 have no:∀(b:Nat) (cur:Array aa) (ty:aS),w.heap[b]?=some (ax cur ty (0,0))->w'.heap[b]?=w.heap[b]?:=λb cur ty eX=>hb.keep b (kg eX).1 (za (h.mb n hn).2 eX);refine⟨⟨h.cl.1,(no _ _ _ h.cl.2).trans h.cl.2⟩,λi hi=>⟨(h.db i hi).1,(no _ _ _ (h.db i hi).2).trans (h.db i hi).2⟩,λi hi=>⟨(h.mb i hi).1,?_⟩,h.mbi,λi hi=>(h.mv i hi).keep (λb cur _ eX=>no b cur _ eX) (λb cur _ eX=>no b cur _ eX) (λb cur _ eX=>no b cur _ eX),h.mpi,h.cvi,h.stg.keep (λb cur ty eX _=>no b cur ty eX) (λb ⟨es,ck,eX⟩ hw=>hb.keep b (kg eX).1 λe=>hw.elim (λe2=>h.smb n hn (e.symm.trans e2)) λ⟨x,y,hx,hy,hz,e2⟩=>(h.stg.n x y hx hy hz).2 n hn (e.symm.trans e2)) (λ_ h=>h) rfl rfl rfl,h.smb⟩;show jh w' (A.mb i) (zh s.kv n X i);unfold zh;split
 ·rename_i e;subst e;exact hm
 ·rename_i e;exact(h.mb i hi).2.block (hb.keep _ (h.mb i hi).2.lt λe2=>e (h.mbi i n hi hn e2))
theorem jm.chg {x:Nat} {m:Mv} {fU:List Chg} {cv':aa} (h:jm w F A s) (hn:n<4) (pO:A.mp n=some x) (eD:s.mv n=some m) (hx:MX x n (A.pv n) (A.cv n) (A.ld n) m w) (hb:But (ChB (A.mb n) x (A.cv n)) w w') (hm:jh w' (A.mb n) X)
  (h4:MX x n (A.pv n) cv' (A.ld n) {m with cs:=fU} w') (hc:∀b,cv'.ownBlock=some b->(A.cv n).ownBlock=some b\/w.heap.size<=b):
  jm w' (λb=>F b\/w.heap.size<=b) {A with cv:=qg A.cv n cv'} {s with kv:=zh s.kv n X,mv:=qg s.mv n (some {m with cs:=fU})}:=by
 have lt:∀{b:Nat} {o:Obj},w.heap[b]?=some o->b<w.heap.size:=λhb=>(kg hb).1;have JB:∀b,(A.cv n).ownBlock=some b->∃cur,w.heap[b]?=some (ax cur 109 (0,0)):=λb hb=>jr.ty hx.r hb;have gP:∀(b:Nat) (cur:Array aa) (ty:aS),w.heap[b]?=some (ax cur ty (0,0))->ty≠80->ty≠109->w'.heap[b]?=w.heap[b]?:=λb cur ty eX n1 n2=>hb.keep b (lt eX) (by
  rintro(e|e|e)
  ·exact za (h.mb n hn).2 eX e
  ·rw[e,hx.b]at eX;have e2:=xoi eX;injection e2 with _ e3;exact n1 e3.symm
  ·obtain⟨c,hc⟩:=JB b e;rw[hc]at eX;have e2:=xoi eX;injection e2 with _ e3
   exact n2 e3.symm)
 have mI:∀b,(∃es ck,w.heap[b]?=some (Obj.map es ck))->b≠A.mb n->w'.heap[b]?=w.heap[b]?:=λb ⟨es,ck,eX⟩ eG=>hb.keep b (lt eX) (by
  rintro(e|e|e)
  ·exact eG e
  ·rw[e,hx.b]at eX;cases eX
  ·obtain⟨c,hc⟩:=JB b e
   rw[hc]at eX;cases eX)
 refine⟨⟨.inl h.cl.1,?_⟩,λi hi=>⟨.inl (h.db i hi).1,(gP _ _ _ (h.db i hi).2 (by decide) (by decide)).trans (h.db i hi).2⟩,λi hi=>⟨.inl (h.mb i hi).1,?_⟩,h.mbi,λi hi=>?_,h.mpi,λi j g hi hj h1 h2=>?_,h.stg.keep (λb cur ty eX ht=>gP b cur ty eX (by rcases ht with rfl|rfl<;>decide) (by rcases ht with rfl|rfl<;>decide)) (λb eX hw=>mI b eX λe=>hw.elim (λe2=>h.smb n hn (e.symm.trans e2)) λ⟨x,y,hx,hy,hz,e2⟩=>(h.stg.n x y hx hy hz).2 n hn (e.symm.trans e2)) (λ_ h=>.inl h) rfl rfl rfl,h.smb⟩
 ·exact(gP _ _ _ h.cl.2 (by decide) (by decide)).trans h.cl.2
 ·show jh w' (A.mb i) (zh s.kv n X i);unfold zh;split
  ·rename_i e;subst e;exact hm
  ·rename_i e;obtain⟨es,ck,eX,_⟩:=(h.mb i hi).2;exact(h.mb i hi).2.block (mI _ ⟨es,ck,eX⟩ λe2=>e (h.mbi i n hi hn e2))
 ·show kE w' _ _ i (qg s.mv n _ i);by_cases e:i=n
  ·subst e;rw[show qg s.mv i (some {m with cs:=fU}) i=some {m with cs:=fU} by unfold qg;rw[if_pos rfl]];have h0:=h.mv i hi;rw[eD]at h0;obtain⟨g,z1,z2,z3,z4,z5,z6,z7⟩:=h0;rw[pO]at z1;cases z1;refine⟨x,pO,.inl z2,?_,?_,?_,λb hb=>.inl (z6 b hb),λb hb=>?_⟩
   ·rw[h4.b];show _=some (ax (qf i (A.pv i) (qg A.cv i cv' i) (A.ld i) _) _ _);rw[show qg A.cv i cv' i=cv' by unfold qg;rw[if_pos rfl]]
   ·exact z4.block λb hb=>by
     obtain⟨c,hc⟩:=jr.ty z4 hb;exact gP b c _ hc (by decide) (by decide)
   ·show oZ w' (qg A.cv i cv' i) fU;rw[show qg A.cv i cv' i=cv' by unfold qg;rw[if_pos rfl]];exact h4.r
   ·have hb:cv'.ownBlock=some b:=by
     have:qg A.cv i cv' i=cv':=by unfold qg;rw[if_pos rfl]
     rw[<-this];exact hb
    exact(hc b hb).imp (z7 b) id
  ·rw[show qg s.mv n (some {m with cs:=fU}) i=s.mv i by unfold qg;rw[if_neg e]];have hA:qg A.cv n cv' i=A.cv i:=by unfold qg;rw[if_neg e]
   have h1:kE w' (λb=>F b\/w.heap.size<=b) A i (s.mv i):=((h.mv i hi).keep (λb cur o eX=>hb.keep b (lt eX) (by
     rintro(e2|e2|e2)
     ·exact za (h.mb n hn).2 eX e2
     ·exact e (h.mpi i n b hi hn o (by rw[pO,e2]))
     ·obtain⟨c,hc⟩:=JB b e2;rw[hc]at eX;have e3:=xoi eX;injection e3 with _ e4;exact absurd e4 (by decide))) (λb cur o eX=>gP b cur _ eX (by decide) (by decide)) (λb cur o eX=>hb.keep b (lt eX) (by
     rintro(e2|e2|e2)
     ·exact za (h.mb n hn).2 eX e2
     ·rw[e2,hx.b]at eX;have e3:=xoi eX;injection e3 with _ e4;exact absurd e4 (by decide)
     ·exact e (h.cvi i n b hi hn o e2)))).mono λb hb=>.inl hb
   ·cases iZ:s.mv i with
    |none=>rw[iZ]at h1;exact⟨h1.1,by show(qg A.cv n cv' i).ownBlock=none;rw[hA];exact h1.2⟩
    |some mi=>
     rw[iZ]at h1;obtain⟨g,z1,z2,z3,z4,z5,z6,z7⟩:=h1;exact⟨g,z1,z2,by rw[z3];show _=some (ax (qf i (A.pv i) (qg A.cv n cv' i) (A.ld i) _) _ _);rw[hA],z4,by show oZ w' (qg A.cv n cv' i) _;rw[hA];exact z5,z6,λb hb=>z7 b (by have hb:(qg A.cv n cv' i).ownBlock=some b:=hb;rw[hA]at hb;exact hb)⟩
 ·have h1:(qg A.cv n cv' i).ownBlock=some g:=h1;have h2:(qg A.cv n cv' j).ownBlock=some g:=h2;have ltc:∀i,i<4->∀b,(A.cv i).ownBlock=some b->b<w.heap.size:=λi hi b hb=>by
   have h0:=h.mv i hi;cases iZ:s.mv i with
   |none=>rw[iZ]at h0;rw[h0.2]at hb;cases hb
   |some mi=>
    rw[iZ]at h0;obtain⟨q,z1,z2,z3,z4,z5,z6,z7⟩:=h0;exact jr.lt z5 hb
  unfold qg at h1 h2;by_cases e1:i=n
  ·by_cases e2:j=n
   ·omega
   ·rw[if_pos e1]at h1;rw[if_neg e2]at h2;rcases hc g h1 with h3|h3
    ·exact absurd (h.cvi n j g hn hj h3 h2) λe=>e2 e.symm
    ·have:=ltc j hj g h2;omega
  ·rw[if_neg e1]at h1;by_cases e2:j=n
   ·rw[if_pos e2]at h2;rcases hc g h2 with h3|h3
    ·exact absurd (h.cvi i n g hi hn h1 h3) e1
    ·have:=ltc i hi g h1;omega
   ·rw[if_neg e2]at h2;exact h.cvi i j g hi hj h1 h2
end
end Go.Proofs.YtkpekiajdlolnaaGreat
namespace Go.Proofs.YtkpekiajdlolnaaGreat.Ph
open Go.Conc Go.ConcN Go.RowKit Go.Maps Go.Conc.Lib Go Sim
def jv (w:ac) (F:Nat->Prop) (A:PA) (v:aa) (s':St) (e:cw) (w':ac):Prop:=e=.returned v/\∃A':PA,A'.cl=A.cl/\jm w' (λb=>F b\/w.heap.size<=b) A' s'/\But F w w'
def chE (s:St) (k v:ByteArray) (g:Bool):Int:=if iL k.data.toList then(if vv (s.mv (q9 k.data.toList))then(if 12<v.data.toList.length then 3 else 5)else nN (s.kv (q9 k.data.toList)) k.data.toList v.data.toList g)else 2
def chS (s:St) (k v:ByteArray) (g:Bool):St:=if iL k.data.toList&&!vv (s.mv (q9 k.data.toList))then{s with kv:=zh s.kv (q9 k.data.toList) (chL (s.kv (q9 k.data.toList)) k.data.toList v.data.toList g),mv:=qg s.mv (q9 k.data.toList) ((s.mv (q9 k.data.toList)).map λm=>{m with cs:=csL (s.kv (q9 k.data.toList)) m.cs k v g})}else s
section
variable {w w':ac} {F:Nat->Prop} {A:PA} {s:St}
theorem jv.idle {v:aa} (h:jm w F A s) (hb:aA w.heap.size w w'):jv w F A v s (.returned v) w':=⟨rfl,A,rfl,(h.below hb).mono λ_ h=>.inl h,But.of_below hb⟩
theorem RH (h:jm w F A s) (hl:∀i,i<4->(s.kv i).length<=12) (gI:∀i,i<4->∀m,s.mv i=some m->m.cs.length<=1073741820) (k v:ByteArray) (g:Bool) (hs:k.size<=aU):
  aK prog 50 #[.pointer (some ⟨A.cl,0,none⟩),.agg #[.string k,.string v,.bool g]] w (jv w F A (.int .i64 (chE s k v g)) (chS s k v g)):=by
 cases hk:iL k.data.toList
 ·refine(Zi k v g hk hs).mono λe w' ⟨h1,h2⟩=>?_;unfold chE chS;rw[hk,h1];exact .idle h h2
 ·have hn:=Ez k.data.toList;obtain⟨n,vN⟩:∃n,q9 k.data.toList=n:=⟨_,rfl⟩
  unfold chE chS;rw[vN]at hn;rw[hk,vN];have hp:=h.part n hn;have hm:=h.mv n hn;cases eD:s.mv n with
  |none=>
   rw[eD]at hm;rw[hm.1]at hp;refine(Zh k v g n hn hk vN hs (hl n hn) hp).mono λe w' ⟨h1,h2,h3⟩=>?_;have h4:=(h.put hn h3 h2).mono (F':=λb=>F b\/w.heap.size<=b) λ_ h=>.inl h;refine⟨h1,A,rfl,?_,h3.mono λb e=>e▸(h.mb n hn).1⟩;have e:qg s.mv n (Option.map (λm:Mv=>{m with cs:=csL (s.kv n) m.cs k v g}) none)=s.mv:=by
    funext i;unfold qg;split
    ·rename_i e;rw[e,eD];rfl
    ·rfl
   show jm w' _ A {s with kv:=_,mv:=qg s.mv n (Option.map (λm:Mv=>{m with cs:=csL (s.kv n) m.cs k v g}) none)};rw[e];exact h4
  |some m=>
   rw[eD]at hm;obtain⟨x,z1,z2,z3,z4,z5,z6,z7⟩:=hm;rw[z1]at hp;have hx:MX x n (A.pv n) (A.cv n) (A.ld n) m w:=⟨z3,z5⟩
   cases fT:m.sealed
   ·have lY:(A.cv n).ownBlock≠some A.cl:=λe=>by
     obtain⟨c,hc⟩:=jr.ty z5 e;rw[h.cl.2]at hc;have e2:=xoi hc;injection e2 with _ e3;exact absurd e3 (by decide)
    refine(ZL k v g n hn hk vN hs (hl n hn) hp hx fT (gI n hn m eD) lY).mono λe w' ⟨h1,h2,⟨cv',h3,h4⟩,h5⟩=>?_;rw[show vv (some m)=false from fT];refine⟨h1,{A with cv:=qg A.cv n cv'},rfl,h.chg hn z1 eD hx h5 h2 h3 h4,h5.mono λb e=>?_⟩;rcases e with e|e|e
    ·exact e▸(h.mb n hn).1
    ·exact e▸z2
    ·exact z7 b e
   ·refine(ql6 k v g n hn hk vN hs (hl n hn) hp hx fT).mono λe w' ⟨h1,h2⟩=>?_;rw[show vv (some m)=true from fT,h1];exact .idle h h2
theorem Ue (h:jm w F A s) (hl:∀i,i<4->(s.kv i).length<=12) (gI:∀i,i<4->∀m,s.mv i=some m->m.cs.length<=1073741820) (k v:ByteArray) (hs:k.size<=aU):
  aK prog 29 #[.pointer (some ⟨A.cl,0,none⟩),.string k,.string v] w (jv w F A (.int .i64 (chE s k v false)) (chS s k v false)):=by
 have hc:=RH h hl gI k v false hs;generalize chS s k v false=s' at*;generalize chE s k v false=c at*;clear h hl gI;go_enter func29,ntmps29;go_wp2_with (go_at_call 50;refine hc.mono ?_;rintro e w' ⟨rfl,h2⟩;have H2:=Hd h2;clear h2)
 go_ret;exact⟨rfl,H2.o⟩
theorem X4 (h:jm w F A s) (hl:∀i,i<4->(s.kv i).length<=12) (gI:∀i,i<4->∀m,s.mv i=some m->m.cs.length<=1073741820) (k:ByteArray) (hs:k.size<=aU):
  aK prog 32 #[.pointer (some ⟨A.cl,0,none⟩),.string k] w (jv w F A (.int .i64 (chE s k ⟨#[]⟩ true)) (chS s k ⟨#[]⟩ true)):=by
 have hc:=RH h hl gI k ⟨#[]⟩ true hs;generalize chS s k ⟨#[]⟩ true=s' at*;generalize chE s k ⟨#[]⟩ true=c at*;clear h hl gI;go_enter func32,ntmps32;go_wp2_with (go_at_call 50;refine hc.mono ?_;rintro e w' ⟨rfl,h2⟩;have H2:=Hd h2;clear h2)
 go_ret;exact⟨rfl,H2.o⟩
end
end Go.Proofs.YtkpekiajdlolnaaGreat.Ph
namespace Go.Proofs.YtkpekiajdlolnaaGreat
open Go.RowKit Go.Maps
section
variable {w w':ac} {F F':Nat->Prop} {A:PA} {s:St} {n:Nat}
theorem jm.turn (h:jm w F A s) (A':PA) (s':St) (hb:But (· =A.cl) w w') (lY:w'.heap[A.cl]?=some (.cells (ji A' s') 70 (0,0))) (e1:A'.cl=A.cl) (e2:A'.db=A.db) (e3:A'.mb=A.mb) (e4:A'.sm=A.sm/\A'.sP=A.sP) (e5:s'.kv=s.kv) (e6:s'.sg=s.sg)
  (eD:∀i,i<4->(∀(b:Nat) (cur:Array aa) (ty:aS),w.heap[b]?=some (ax cur ty (0,0))->ty≠70->w'.heap[b]?=w.heap[b]?)->kE w' F' A' i (s'.mv i)) (hF:∀b,F b->F' b)
  (pO:∀i j g,i<4->j<4->A'.mp i=some g->A'.mp j=some g->i=j) (Ve:∀i j g,i<4->j<4->(A'.cv i).ownBlock=some g->(A'.cv j).ownBlock=some g->i=j):jm w' F' A' s':=by
 have lt:∀{b:Nat} {o:Obj},w.heap[b]?=some o->b<w.heap.size:=λhb=>(kg hb).1;have gP:∀(b:Nat) (cur:Array aa) (ty:aS),w.heap[b]?=some (ax cur ty (0,0))->ty≠70->w'.heap[b]?=w.heap[b]?:=λb cur ty eX n1=>hb.keep b (lt eX) λe=>by
  rw[e,h.cl.2]at eX;have e2:=xoi eX;injection e2 with _ e3;exact n1 e3.symm
 have mI:∀b,(∃es ck,w.heap[b]?=some (Obj.map es ck))->w'.heap[b]?=w.heap[b]?:=λb ⟨es,ck,eX⟩=>hb.keep b (lt eX) λe=>by
  rw[e,h.cl.2]at eX;cases eX
 refine⟨⟨hF _ (e1▸h.cl.1),e1▸lY⟩,λi hi=>?_,λi hi=>?_,by rw[e3];exact h.mbi,λi hi=>eD i hi gP,pO,Ve,?_,by rw[e3,e4.1];exact h.smb⟩
 ·rw[e2,e3];exact⟨hF _ (h.db i hi).1,(gP _ _ _ (h.db i hi).2 (by decide)).trans (h.db i hi).2⟩
 ·rw[e3,e5];obtain⟨es,ck,eX,_⟩:=(h.mb i hi).2;exact⟨hF _ (h.mb i hi).1,(h.mb i hi).2.block (mI _ ⟨es,ck,eX⟩)⟩
 ·rw[e6];exact h.stg.keep (λb cur ty eX ht=>gP b cur ty eX (by rcases ht with rfl|rfl<;>decide)) (λb eX _=>mI b eX) hF e4.1 e4.2 e3
def movE (s:St) (k:Int):Int:=if k<0\/3<k then 8 else match s.mv k.toNat with
 |none=>11
 |some _=>0
theorem Y1 (k:Int) (hk:k<0\/3<k) (pR: -9223372036854775808<=k/\k<=9223372036854775807) (cl:Nat):aK prog 36 #[.pointer (some ⟨cl,0,none⟩),.int .i64 k] w λe w'=>e=.returned (.tuple #[.pointer none,.int .i64 8])/\w'=w:=by
 rcases bU k 0 with h2|h2
 ·have g1:decide (k<0)=true:=xdt h2;go_enter func36,ntmps36;go_wp2;go_ret2;exact⟨rfl,rfl⟩
 ·have g1:decide (k<0)=false:=xdf (by omega);have g2:decide (4<=k)=true:=xdt (by omega);go_enter func36,ntmps36;go_wp2;go_ret2;exact⟨rfl,rfl⟩
theorem CX (h:jm w F A s) (hn:n<4):aK prog 36 #[.pointer (some ⟨A.cl,0,none⟩),.int .i64 n] w λe w'=>(match s.mv n with
  |none=>e=.returned (.tuple #[.pointer none,.int .i64 11])
  |some _=>e=.returned (.tuple #[.pointer (some ⟨A.cl,1+n*3,none⟩),.int .i64 0]))/\w'=w:=by
 have Bc:((n:Int)<4):=by omega
 have g1:decide ((n:Int)<0)=false:=xdf (by omega);have g2:decide ((4:Int)<=n)=false:=xdf (by omega);have c:=(h.part n hn).v;have hm:=h.mv n hn;cases eD:s.mv n with
 |none=>
  rw[eD]at hm;rw[hm.1]at c;have c:w.cell? ⟨A.cl,1+n*3+2,none⟩=some (.pointer none):=c;clear hm h;go_enter func36,ntmps36;go_wp2;go_ret2;exact⟨rfl,rfl⟩
 |some m=>
  rw[eD]at hm;obtain⟨x,z1,_⟩:=hm;rw[z1]at c;have c:w.cell? ⟨A.cl,1+n*3+2,none⟩=some (.pointer (some ⟨x,0,none⟩)):=c;clear z1 h;go_enter func36,ntmps36;go_wp2;go_ret2;exact⟨rfl,rfl⟩
end
end Go.Proofs.YtkpekiajdlolnaaGreat
namespace Go.Proofs.YtkpekiajdlolnaaGreat.Ph
open Go.Conc Go.ConcN Go.RowKit Go.Maps Go.Conc.Lib Go Sim
section
variable {w w':ac} {F:Nat->Prop} {A:PA} {s:St}
end
end Go.Proofs.YtkpekiajdlolnaaGreat.Ph
namespace Go.Proofs.YtkpekiajdlolnaaGreat
open Go.RowKit Go.Maps
def bgM (s:St) (n to:Nat):Mv:=⟨s.id+1,s.ow n,to,s.kv n,[],[],0,0,0,false⟩
def bgS (s:St) (n to:Nat):St:={s with id:=s.id+1,mv:=qg s.mv n (some (bgM s n to))}
def mvE (s:St) (k to:Int):Int:=if k<0\/3<k then 8 else if to<0\/s.hosts<=to then 1 else if(s.mv k.toNat).isSome then 10 else if(s.ow k.toNat:Int)=to then 9 else 0
def mvS (s:St) (k to:Int):St:=if mvE s k to=0 then bgS s k.toNat to.toNat else s
section
variable {w w':ac} {F:Nat->Prop} {A:PA} {s:St} {n:Nat}
def bgA (A:PA) (n g:Nat) (pv:aa):PA:={A with mp:=qg A.mp n (some g),pv:=qg A.pv n pv,cv:=qg A.cv n (.slice none 0 0),ld:=qg A.ld n ⟨#[]⟩}
theorem kE.same {C:PA} {m:Option Mv} (h:kE w F A i m) (e1:C.mp i=A.mp i) (e2:C.pv i=A.pv i) (e3:C.cv i=A.cv i) (e4:C.ld i=A.ld i):kE w F C i m:=by
 cases m with
 |none=>exact⟨e1.trans h.1,by rw[e3];exact h.2⟩
 |some m=>
  obtain⟨g,h1,h2,h3,h4,h5,h6,h7⟩:=h;exact⟨g,e1.trans h1,h2,by rw[e2,e3,e4];exact h3,by rw[e2];exact h4,by rw[e3];exact h5,by rw[e2];exact h6,by rw[e3];exact h7⟩
theorem kE.Uo {m:Option Mv} (h:kE w F A i m) (e:A.mp i=some g):g<w.heap.size:=by
 cases m with
 |none=>rw[h.1]at e;cases e
 |some m=>
  obtain⟨g',h1,h2,h3,_⟩:=h;rw[h1]at e;cases e;exact(kg h3).1
theorem qkp (A:PA) (s:St) (n to g:Nat) (pv:aa):n<4->((ji A s).setIfInBounds 14 (.int .i64 ((s.id+1:Nat):Int))).setIfInBounds (1+n*3+2) (.pointer (some ⟨g,0,none⟩))=ji (bgA A n g pv) (bgS s n to):=by
 intro hn;match n,hn with
 |0,_|1,_|2,_|3,_=>rfl
theorem jm.begin {to:Nat} (h:jm w F A s) (hn:n<4) (hb:But (· =A.cl) w w') (lY:w'.heap[A.cl]?=some (.cells (ji (bgA A n g pv) (bgS s n to)) 70 (0,0)))
  (hg:w'.heap[g]?=some (.cells (qf n pv (.slice none 0 0) ⟨#[]⟩ (bgM s n to)) 80 (0,0))) (lX:w.heap.size<=g) (hr:w'.ownsRow w.heap.size 62 2 pv (s.kv n).length (flat (s.kv n))):jm w' (λb=>F b\/w.heap.size<=b) (bgA A n g pv) (bgS s n to):=by
 refine h.turn (bgA A n g pv) (bgS s n to) hb lY rfl rfl rfl ⟨rfl,rfl⟩ rfl rfl (λi hi no=>?_) (λ_ h=>.inl h) (λi j q hi hj h1 h2=>?_) (λi j q hi hj h1 h2=>?_)
 ·show kE w' _ _ i (qg s.mv n _ i);by_cases e:i=n
  ·subst e;rw[qj];have e1:(bgA A i g pv).pv i=pv:=qj ..;have e2:(bgA A i g pv).cv i=.slice none 0 0:=qj ..;have e3:(bgA A i g pv).ld i=⟨#[]⟩:=qj ..;refine⟨g,qj ..,.inr lX,by rw[e1,e2,e3];exact hg,?_,?_,λb fP=>.inr ?_,λb fP=>?_⟩
   ·rw[e1];exact jr.of hr
   ·rw[e2];exact jr.of (bD _ 0 _ _)
   ·rw[e1]at fP;exact(hr.lt b fP).1
   ·rw[e2]at fP;cases fP
  ·rw[ql _ _ e];exact(((h.mv i hi).keep (w':=w') (λb c _ hb=>no b c _ hb (by decide)) (λb c _ hb=>no b c _ hb (by decide)) (λb c _ hb=>no b c _ hb (by decide))).mono λ_ h=>.inl h).same (ql _ _ e) (ql _ _ e) (ql _ _ e) (ql _ _ e)
 ·replace h1:qg A.mp n (some g) i=some q:=h1;replace h2:qg A.mp n (some g) j=some q:=h2;by_cases e1:i=n
  ·by_cases e2:j=n
   ·omega
   ·subst e1;rw[qj]at h1;rw[ql _ _ e2]at h2;cases h1;have:=(h.mv j hj).Uo h2;omega
  ·rw[ql _ _ e1]at h1;by_cases e2:j=n
   ·subst e2;rw[qj]at h2;cases h2;have:=(h.mv i hi).Uo h1;omega
   ·rw[ql _ _ e2]at h2;exact h.mpi i j q hi hj h1 h2
 ·replace h1:(qg A.cv n (.slice none 0 0) i).ownBlock=some q:=h1;replace h2:(qg A.cv n (.slice none 0 0) j).ownBlock=some q:=h2;by_cases e1:i=n
  ·subst e1;rw[qj]at h1;cases h1
  ·by_cases e2:j=n
   ·subst e2;rw[qj]at h2;cases h2
   ·rw[ql _ _ e1]at h1;rw[ql _ _ e2]at h2;exact h.cvi i j q hi hj h1 h2
theorem ZQ (h:jm w F A s) (hn:n<4) (e:wA=w.setCell ⟨A.cl,14,none⟩ (.int .i64 ((s.id+1:Nat):Int))):
  wA.cell? ⟨A.cl,14,none⟩=some (.int .i64 ((s.id+1:Nat):Int))/\wA.cell? ⟨A.cl,1+n*3,none⟩=some (.int .i64 (s.ow n))/\wA.cell? ⟨A.cl,1+n*3+1,none⟩=some (.pointer (some ⟨A.db n,0,none⟩))/\wA.cell? ⟨A.cl,1+n*3+2,none⟩=some (ptr (A.mp n))/\wA.frozen? ⟨A.cl,1+n*3+2,none⟩=false/\wA.cell? ⟨A.db n,0,none⟩=some (.map (some (A.mb n)))/\jh wA (A.mb n) (s.kv n)/\wA.heap[A.cl]?=some (.cells ((ji A s).setIfInBounds 14 (.int .i64 ((s.id+1:Nat):Int))) 70 (0,0))/\wA.heap.size=w.heap.size/\But (· =A.cl) w wA:=by
 have hs:=xhs w A.cl 14 _ _ (.int .i64 ((s.id+1:Nat):Int)) h.cl.2;have ho:∀b,b≠A.cl->wA.heap[b]?=w.heap[b]?:=λb hb=>by rw[e];exact xho w _ b _ hb
 have hd:A.db n≠A.cl:=λe2=>by
  have:=(h.db n hn).2;rw[e2,h.cl.2]at this;have e3:=xoi this;injection e3 with _ e4;exact absurd e4 (by decide)
 have hm:A.mb n≠A.cl:=λe2=>za (h.mb n hn).2 h.cl.2 e2.symm;rw[<-e]at hs;obtain⟨p1,p2,p3⟩:=Ia A s n hn;refine⟨by simp[ae,hs,ji],?_,?_,?_,by simp[bF,hs],by rw[xcb (ho _ hd)];simp[ae,(h.db n hn).2],(h.mb n hn).2.block (ho _ hm),hs,by rw[e];simp,by rw[e];exact But.setCell (B:=(· =A.cl)) (But.refl _ _) rfl _ _⟩;all_goals
  simp only[ae,hs];rw[xne (by omega)]
 ·simp[p1]
 ·simp[p2,ptr]
 ·simp[p3]
theorem YD {id ow:Int} (hn:n<4) (h8:wA.heap[A.cl]?=some (.cells ((ji A s).setIfInBounds 14 (.int .i64 ((s.id+1:Nat):Int))) 70 (0,0))) (hb:aA wA.heap.size wA w1) (lX:wA.heap.size<=g)
  (hg:w1.heap[g]?=some (.cells #[.int .i64 id,.int .i64 ow,.int .i64 to,pv,.slice none 0 0,.int .u8 0,.int .i64 0,.int .i64 0,.int .i64 0,.string ⟨#[]⟩,.string ⟨#[]⟩,.int .i64 0,.bool false] 80 (0,0))) (e:w2=w1.setCell ⟨A.cl,1+n*3+2,none⟩ (.pointer (some ⟨g,0,none⟩))):
  w2.cell? ⟨A.cl,1+n*3+2,none⟩=some (.pointer (some ⟨g,0,none⟩))/\w2.cell? ⟨A.cl,14,none⟩=some (.int .i64 ((s.id+1:Nat):Int))/\w2.cell? ⟨g,5,none⟩=some (.int .u8 0)/\w2.cell? ⟨g,6,none⟩=some (.int .i64 0)/\w2.cell? ⟨g,7,none⟩=some (.int .i64 0)/\w2.cell? ⟨g,8,none⟩=some (.int .i64 0)/\w2.cell? ⟨g,9,none⟩=some (.string ⟨#[]⟩)/\(∀j,w2.frozen? ⟨g,j,none⟩=false)/\
   w2.heap[A.cl]?=some (.cells (((ji A s).setIfInBounds 14 (.int .i64 ((s.id+1:Nat):Int))).setIfInBounds (1+n*3+2) (.pointer (some ⟨g,0,none⟩))) 70 (0,0))/\w2.heap[g]?=w1.heap[g]?/\g≠A.cl:=by
 have eB:=(kg h8).1;have eG:g≠A.cl:=by omega
 have h1:=(hb.block _ eB).trans h8;have hs:=xhs w1 A.cl (1+n*3+2) _ _ (.pointer (some ⟨g,0,none⟩)) h1;have ho:w2.heap[g]?=w1.heap[g]?:=by rw[e];exact xho w1 _ g _ eG
 rw[<-e]at hs;have iq:=ho.trans hg;have eY:(ji A s).size=16:=rfl;refine⟨?_,?_,by simp[ae,iq],by simp[ae,iq],by simp[ae,iq],by simp[ae,iq],by simp[ae,iq],λj=>by simp[bF,iq],hs,ho,eG⟩
 ·simp only[ae,hs];rw[xsl (by simp[eY];omega)];rfl
 ·simp only[ae,hs];rw[xne (by omega),xsl (by simp[eY])];rfl
theorem YE {to:Nat} (h:jm w F A s) (hn:n<4) (nG:But (· =A.cl) w wA) (hz:wA.heap.size=w.heap.size) (hb:aA wA.heap.size wA w1) (lX:wA.heap.size<=g)
  (hg:w1.heap[g]?=some (.cells #[.int .i64 ((s.id+1:Nat):Int),.int .i64 (s.ow n),.int .i64 to,pv,.slice none 0 0,.int .u8 0,.int .i64 0,.int .i64 0,.int .i64 0,.string ⟨#[]⟩,.string ⟨#[]⟩,.int .i64 0,.bool false] 80 (0,0)))
  (hr:w1.ownsRow wA.heap.size 62 2 pv (s.kv n).length (flat (s.kv n))) (e:w2=w1.setCell ⟨A.cl,1+n*3+2,none⟩ (.pointer (some ⟨g,0,none⟩)))
  (hc:w2.heap[A.cl]?=some (.cells (((ji A s).setIfInBounds 14 (.int .i64 ((s.id+1:Nat):Int))).setIfInBounds (1+n*3+2) (.pointer (some ⟨g,0,none⟩))) 70 (0,0))) (ho:w2.heap[g]?=w1.heap[g]?) (eG:g≠A.cl)
  (e3:w3=((((w2.setCell ⟨g,5,none⟩ (.int .u8 0)).setCell ⟨g,6,none⟩ (.int .i64 n)).setCell ⟨g,7,none⟩ (.int .i64 ((s.id:Int)+1))).setCell ⟨g,8,none⟩ (.int .i64 0)).setCell ⟨g,9,none⟩ (.string ⟨#[]⟩)):
  jm w3 (λb=>F b\/w.heap.size<=b) (bgA A n g pv) (bgS s n to)/\But F w w3:=by
 have k1:=xhs w2 g 5 _ _ (.int .u8 0) (ho.trans hg);have k2:=xhs _ g 6 _ _ (.int .i64 n) k1;have k3:=xhs _ g 7 _ _ (.int .i64 ((s.id:Int)+1)) k2;have k4:=xhs _ g 8 _ _ (.int .i64 0) k3;have k5:=xhs _ g 9 _ _ (.string ⟨#[]⟩) k4;have Ug:∀b,b≠g->w3.heap[b]?=w2.heap[b]?:=λb hb=>by
  rw[e3,xho _ _ _ _ hb,xho _ _ _ _ hb,xho _ _ _ _ hb,xho _ _ _ _ hb,xho _ _ _ _ hb]
 rw[<-e3]at k5;have Ab:But (λb=>b=A.cl\/w.heap.size<=b) w w3:=by
  rw[e3,e];refine But.setCell (But.setCell (But.setCell (But.setCell (But.setCell (But.setCell ((nG.mono λb h=>.inl h).trans (But.of_below (B:=λb=>b=A.cl\/w.heap.size<=b) hb)) (.inl rfl) _ _) ?_ _ _) ?_ _ _) ?_ _ _) ?_ _ _) ?_ _ _;all_goals exact .inr (by omega)
 have TB:But (· =A.cl) w w3:=⟨Ab.size,λb hb hn=>Ab.keep b hb λx=>x.elim hn λy=>by omega,Ab.os,Ab.output⟩
 have mD:w3.ownsRow w.heap.size 62 2 pv (s.kv n).length (flat (s.kv n)):=by
  rw[hz]at hr;refine je hr λq hq=>?_;have hqg:q≠g:=λx=>by
   obtain⟨c,Jj⟩:=Ec hr hq;rw[x,hg]at Jj;have e2:=xoi Jj;injection e2 with _ e4;exact absurd e4 (by decide)
  have hqc:q≠A.cl:=λx=>by
   have:=(hr.lt q hq).1;have:=h.clt;omega
  rw[Ug q hqg,e];exact xho _ _ _ _ hqc
 refine⟨h.begin hn TB ?_ (k5.trans rfl) (by omega) mD,TB.mono λb e=>e▸h.cl.1⟩;rw[Ug A.cl λx=>eG x.symm,hc,qkp A s n to g pv hn]
end
end Go.Proofs.YtkpekiajdlolnaaGreat
namespace Go.Proofs.YtkpekiajdlolnaaGreat.Ph
open Go.Conc Go.ConcN Go.RowKit Go.Maps Go.Conc.Lib Go Sim
section
variable {w w':ac} {F:Nat->Prop} {A:PA} {s:St} {n:Nat}
theorem QY (h:jm w F A s) (hn:n<4) (ny:j4 (s.kv n)) (hL:(s.kv n).length<=12) (iD:∀p∈s.kv n,p.1.length<=aU) (to:Nat) (hid:s.id<=4611686018427387904):
  aK prog 35 #[.pointer (some ⟨A.cl,0,none⟩),.pointer (some ⟨A.cl,1+n*3,none⟩),.int .i64 n,.int .i64 to] w (jv w F A (.tuple #[]) (bgS s n to)):=by
 have c14:w.cell? ⟨A.cl,14,none⟩=some (.int .i64 s.id):=(h.cells 14 _ rfl).1;have f14:=(h.cells 14 (.int .i64 s.id) rfl).2;have H:=Hd h;have HR:=Hd (am ny (am hL iD));have hid2:((s.id:Int)+1<=9223372036854775807):=by omega
 clear h ny hL iD;go_enter func35,ntmps35;go_wp2;have UW:w.setCell ⟨A.cl,14,none⟩ (.int .i64 ((s.id:Int)+1))=w.setCell ⟨A.cl,14,none⟩ (.int .i64 ((s.id+1:Nat):Int)):=rfl;obtain⟨a1,a2,a3,a4,a5,a6,a7,a8,a9,oC⟩:=ZQ H.o hn UW;have NI:=Hd (am a8 (am a9 oC));generalize w.setCell ⟨A.cl,14,none⟩ (.int .i64 ((s.id:Int)+1))=wA at*;clear UW a8 a9 oC c14 f14;change bT _ (aC 1 bg1 true) _ _ _;refine jcg (cl:=A.cl) (n:=n) (db:=A.db n) (mb:=A.mb n) (id:=s.id+1) (ow:=s.ow n) (to:=to) (L:=s.kv n) rfl rfl rfl rfl rfl a1 a2 a3 ⟨_,a4⟩ a5 a6 a7 HR.1 HR.2.1 HR.2.2 λy w1 g sa c hy iI lX hg hr=>?_;have y0:y 0=.pointer (some ⟨A.cl,0,none⟩):=hy 0 (rH (by kernel_rfl));have y1:y 1=.pointer (some ⟨A.cl,1+n*3,none⟩):=hy 1 (rH (by kernel_rfl));have y2:y 2=.int .i64 n:=hy 2 (rH (by kernel_rfl));rw[jd9,y0,y1,y2];obtain⟨w2,pz⟩:∃w2,w1.setCell ⟨A.cl,1+n*3+2,none⟩ (.pointer (some ⟨g,0,none⟩))=w2:=⟨_,rfl⟩
 rw[pz];obtain⟨d1,d2,d5,d6,d7,d8,d9,fr,z1,z2,z3⟩:=YD hn NI.1 iI lX hg pz.symm;have HE:=Hd (λw3=>YE (w3:=w3) H.o hn NI.2.2 NI.2.1 iI lX hg hr pz.symm z1 z2 z3);clear z1 z2 z3;clear hy y0 y1 y2 a1 a2 a3 a4 a5 a6 a7 iI lX hg hr pz;go_wp2;refine aN 12 (by kernel_rfl) (by kernel_rfl) ?_;change wpStill _ _ w2.drew (λa'=>wpList _ _ _ _ a' w2.drew) _ _;simp only[ag,bw,aR,bz];repeat still_step
 refine bO ?_;go_wp2;go_end0;have HF:=Hd (HE.o _ rfl);exact⟨rfl,bgA A n g _,rfl,HF.1.below (br (j5 _ _)),HF.2.drew⟩
theorem Qu {k:Int} (hk:k<0\/3<k):mvE s k to=8/\mvS s k to=s:=by
 have h:mvE s k to=8:=by unfold mvE;rw[if_pos hk]
 exact⟨h,by unfold mvS;rw[h];rfl⟩
theorem Q7 {k:Int} (hk:¬(k<0\/3<k)) (ht:to<0\/s.hosts<=to):mvE s k to=1/\mvS s k to=s:=by
 have h:mvE s k to=1:=by unfold mvE;rw[if_neg hk,if_pos ht]
 exact⟨h,by unfold mvS;rw[h];rfl⟩
theorem Q9 (hn:n<4) (ht:¬(to<0\/s.hosts<=to)) {m:Mv} (hm:s.mv n=some m):mvE s n to=10/\mvS s n to=s:=by
 have h:mvE s n to=10:=by unfold mvE;rw[if_neg (by omega),if_neg ht,bE,hm];rfl
 exact⟨h,by unfold mvS;rw[h];rfl⟩
theorem Q8 (hn:n<4) (ht:¬(to<0\/s.hosts<=to)) (hm:s.mv n=none) (ho:(s.ow n:Int)=to):mvE s n to=9/\mvS s n to=s:=by
 have h:mvE s n to=9:=by unfold mvE;rw[if_neg (by omega),if_neg ht,bE,hm,if_neg (by decide),if_pos ho]
 exact⟨h,by unfold mvS;rw[h];rfl⟩
theorem Uc {to:Nat} (hn:n<4) (ht:to<s.hosts) (hm:s.mv n=none) (ho:s.ow n≠to):mvE s n to=0/\mvS s n to=bgS s n to:=by
 have h:mvE s n to=0:=by unfold mvE;rw[if_neg (by omega),if_neg (by omega),bE,hm,if_neg (by decide),if_neg (by omega)]
 exact⟨h,by unfold mvS;rw[h,if_pos rfl];rfl⟩
theorem q46 (h:jm w F A s) (ny:∀i,i<4->j4 (s.kv i)) (hL:∀i,i<4->(s.kv i).length<=12) (iD:∀i,i<4->∀p∈s.kv i,p.1.length<=aU) (hid:s.id<=4611686018427387904) (k to:Int) (pR: -9223372036854775808<=k/\k<=9223372036854775807) (ht2: -9223372036854775808<=to/\to<=9223372036854775807):
  aK prog 15 #[.pointer (some ⟨A.cl,0,none⟩),.int .i64 k,.int .i64 to] w (jv w F A (.int .i64 (mvE s k to)) (mvS s k to)):=by
 by_cases hk:k<0\/3<k
 ·rw[(Qu hk).1,(Qu hk).2];have H:=Hd h;clear h ny hL iD hid;rcases bU k 0 with h2|h2
  ·have g1:decide (k<0)=true:=xdt h2;go_enter func15,ntmps15;go_wp2;go_ret;exact .idle H.o (j5 _ _)
  ·have g1:decide (k<0)=false:=xdf (by omega);have g2:decide (4<=k)=true:=xdt (by omega);go_enter func15,ntmps15;go_wp2;go_ret;exact .idle H.o (j5 _ _)
 have c0:w.cell? ⟨A.cl,0,none⟩=some (.int .i64 s.hosts):=(h.cells 0 _ rfl).1;obtain⟨n,rfl⟩:∃n:Nat,k=n:=⟨k.toNat,by omega⟩
 have hn:n<4:=by omega
 have Bc:((n:Int)<4):=by omega
 have g1:decide ((n:Int)<0)=false:=xdf (by omega);have g2:decide ((4:Int)<=n)=false:=xdf (by omega);by_cases ht:to<0\/s.hosts<=to
 ·rw[(Q7 hk ht).1,(Q7 hk ht).2];have H:=Hd h;clear h ny hL iD hid;rcases bU to 0 with h2|h2
  ·have g3:decide (to<0)=true:=xdt h2;go_enter func15,ntmps15;go_wp2;go_ret;exact .idle H.o (j5 _ _)
  ·have g3:decide (to<0)=false:=xdf (by omega);have g4:decide ((s.hosts:Int)<=to)=true:=xdt (by omega);go_enter func15,ntmps15;go_wp2;go_ret;exact .idle H.o (j5 _ _)
 obtain⟨to,rfl⟩:∃q:Nat,to=q:=⟨to.toNat,by omega⟩
 have g3:decide ((to:Int)<0)=false:=xdf (by omega);have g4:decide (s.hosts<=to)=false:=xdf (by omega);have cO:=(h.cells (1+n*3) _ (Ia A s n hn).1).1;have cV:=(h.part n hn).v;have hm:=h.mv n hn;cases eD:s.mv n with
 |some m=>
  rw[(Q9 hn ht eD).1,(Q9 hn ht eD).2];rw[eD]at hm;obtain⟨x,z1,_⟩:=hm;rw[z1]at cV;replace cV:w.cell? ⟨A.cl,1+n*3+2,none⟩=some (.pointer (some ⟨x,0,none⟩)):=cV;have H:=Hd h;clear h ny hL iD hid z1 eD hk ht;go_enter func15,ntmps15;go_wp2;go_ret;exact .idle H.o (j5 _ _)
 |none=>
  rw[eD]at hm;rw[hm.1]at cV;replace cV:w.cell? ⟨A.cl,1+n*3+2,none⟩=some (.pointer none):=cV;by_cases ho:s.ow n=to
  ·rw[(Q8 hn ht eD (by omega)).1,(Q8 hn ht eD (by omega)).2];have H:=Hd h;rw[ho]at cO;clear h ny hL iD hid hm eD hk ht ho;go_enter func15,ntmps15;go_wp2;go_ret;exact .idle H.o (j5 _ _)
  ·have g5:(s.ow n==to)=false:=by simpa using ho
   have hb:=QY h hn (ny n hn) (hL n hn) (iD n hn) to hid;rw[(Uc hn (by omega) eD ho).1,(Uc hn (by omega) eD ho).2];have HB:=Hd hb;clear h ny hL iD hid hm eD hk ht ho hb;go_enter func15,ntmps15;go_wp2_with (go_at_call 35;refine HB.mono ?_;rintro e w' ⟨rfl,h2⟩;have H2:=Hd h2;clear h2)
   go_ret;exact⟨rfl,H2.o⟩
end
end Go.Proofs.YtkpekiajdlolnaaGreat.Ph
namespace Go.Proofs.YtkpekiajdlolnaaGreat
open Go.RowKit Go.Maps
def cat (L:Nat->KV) (f:Bs×Bs->Bool):Nat->KV
 |0=>[]
 |i+1=>cat L f i++(L i).filter f
def q6o (L:Nat->KV) (f:Bs×Bs->Bool) (most:Nat) (i j:Nat):KV:=(cat L f i++((L i).take j).filter f).take most
structure ScW (W:ac) (ml sb:Nat) (lv:Nat->aa) (mp:Nat->Option Addr) (L:Nat->KV) (f:Bs×Bs->Bool) (most i j:Nat) (out:aa) (w:ac):Prop where
 row:jH w W.heap.size out (q6o L f most i j)
 below:aA W.heap.size W w
 mdl:Mdl w ml sb lv mp L
section
variable {w:ac} {ml sb:Nat} {lv:Nat->aa} {mp:Nat->Option Addr} {L:Nat->KV} {f:Bs×Bs->Bool} {most i j:Nat} {out:aa}
end
def nxM (n:Nat) (m:Mv):Mv:={m with kind:=1,sent:=(Ph.frB 1 n m.id 0 ⟨#[]⟩).data.toList}
def nxV (s:St) (k:Int):Bs:=if k<0\/3<k then[]else match s.mv k.toNat with
 |none=>[]
 |some m=>if m.sent.isEmpty then(nxM k.toNat m).sent else m.sent
def nxE (s:St) (k:Int):Int:=if k<0\/3<k then 8 else match s.mv k.toNat with
 |none=>11
 |some _=>0
section
variable {w w':ac} {F:Nat->Prop} {A:PA} {s:St} {n x:Nat}
theorem zw {a b:Array aa} {t u:aS} {p q:Nat×Nat} (h:some (ax a t p)=some (ax b u q)):t=u:=by
 have e:=xoi h;injection e
theorem jm.mvb {m m':Mv} {ld':ByteArray} (h:jm w F A s) (hn:n<4) (eD:s.mv n=some m) (pO:A.mp n=some x) (hb:But (· =x) w w') (hx:w'.heap[x]?=some (.cells (qf n (A.pv n) (A.cv n) ld' m') 80 (0,0))) (e1:m'.ps=m.ps) (e2:m'.cs=m.cs):
  jm w' F {A with ld:=qg A.ld n ld'} {s with mv:=qg s.mv n (some m')}:=by
 have h0:=h.mv n hn;rw[eD]at h0;obtain⟨g,z1,z2,z3,z4,z5,z6,z7⟩:=h0;rw[pO]at z1;cases z1;have lt:∀{b:Nat} {o:Obj},w.heap[b]?=some o->b<w.heap.size:=λhb=>(kg hb).1;have gP:∀(b:Nat) (c:Array aa) (ty:aS),w.heap[b]?=some (ax c ty (0,0))->ty≠80->w'.heap[b]?=w.heap[b]?:=λb c ty eX n1=>hb.keep b (lt eX) λe=>by
  rw[e,z3]at eX;exact n1 (zw eX).symm
 have mI:∀b,(∃es ck,w.heap[b]?=some (Obj.map es ck))->w'.heap[b]?=w.heap[b]?:=λb ⟨es,ck,eX⟩=>hb.keep b (lt eX) λe=>by
  rw[e,z3]at eX;cases eX
 refine⟨⟨h.cl.1,(gP _ _ _ h.cl.2 (by decide)).trans h.cl.2⟩,λi hi=>⟨(h.db i hi).1,(gP _ _ _ (h.db i hi).2 (by decide)).trans (h.db i hi).2⟩,λi hi=>⟨(h.mb i hi).1,?_⟩,h.mbi,λi hi=>?_,h.mpi,h.cvi,h.stg.keep (λb cur ty eX ht=>gP b cur ty eX (by rcases ht with rfl|rfl<;>decide)) (λb eX _=>mI b eX) (λ_ h=>h) rfl rfl rfl,h.smb⟩
 ·obtain⟨es,ck,eX,_⟩:=(h.mb i hi).2;exact(h.mb i hi).2.block (mI _ ⟨es,ck,eX⟩)
 ·show kE w' F _ i (qg s.mv n _ i);by_cases e:i=n
  ·subst e;rw[qj];refine⟨x,pO,z2,?_,?_,?_,z6,z7⟩
   ·rw[hx];show _=some (ax (qf i (A.pv i) (A.cv i) (qg A.ld i ld' i) m') _ _);rw[qj]
   ·rw[e1];exact z4.block λb hb=>by
     obtain⟨c,hc⟩:=jr.ty z4 hb;exact gP b c _ hc (by decide)
   ·rw[e2];exact z5.block λb hb=>by
     obtain⟨c,hc⟩:=jr.ty z5 hb;exact gP b c _ hc (by decide)
  ·rw[ql _ _ e];exact((h.mv i hi).keep (λb c iZ eX=>hb.keep b (lt eX) λe2=>e (h.mpi i n b hi hn iZ (by rw[pO,e2]))) (λb c _ hb=>gP b c _ hb (by decide)) (λb c _ hb=>gP b c _ hb (by decide))).same rfl rfl rfl (ql _ _ e)
end
end Go.Proofs.YtkpekiajdlolnaaGreat
namespace Go.Proofs.YtkpekiajdlolnaaGreat.Ph
open Go.Conc Go.ConcN Go.RowKit Go.Maps Go.Conc.Lib Go Sim
section
variable {w w':ac} {F:Nat->Prop} {A:PA} {s:St} {n x:Nat}
structure NxW (w0:ac) (x n:Nat) (pv cv:aa) (m:Mv) (w:ac):Prop where
 b:w.heap[x]?=some (.cells (qf n pv cv ⟨#[]⟩ {m with kind:=1}) 80 (0,0))
 but:But (· =x) w0 w
end
end Go.Proofs.YtkpekiajdlolnaaGreat.Ph
namespace Go.Proofs.YtkpekiajdlolnaaGreat
open Go.RowKit Go.Maps
section
variable {w:ac}
def nY (w:ac):ac:=(w.alloc (.map #[] 0)).alloc (.cells #[.map (some w.heap.size)] 130)
theorem KD:aK prog 41 #[] w λe w'=>e=.returned (.pointer (some ⟨w.heap.size+1,0,none⟩))/\w'=nY w:=by
 have MR:= @run_makeMap prog;go_enter func41,ntmps41;go_wp2;go_ret;exact⟨rfl,rfl⟩
theorem heap_alloc_new' (w:ac) (o:Obj) (h:n=w.heap.size):(w.alloc o).heap[n]?=some o:=by subst h;exact bu w o
theorem Ku (h:w'.heap[mb]?=some (.map #[] 0)):jh w' mb []:=by
 have h0:(({w' with heap:=#[]}:ac).alloc (.map #[] 0)).ownsMap prog 9 Rv 0 0 (DM []):=World.ownsMap_made _ _ _ _;obtain⟨es,ck,h1,F⟩:=h0;have h2:(({w' with heap:=#[]}:ac).alloc (.map #[] 0)).heap[0]?=some (.map #[] 0):=rfl;rw[h2]at h1;cases h1;exact⟨#[],0,h,F⟩
end
section
variable {w w':ac} {F F':Nat->Prop} {A:PA} {s:St} {n h k:Nat}
theorem But.drewN {B:Nat->Prop} (h:But B w w') (n:Nat):But B w (w'.drewN n):=⟨h.size,h.keep,h.os,h.output⟩
theorem jm.idle (p:jm w F A s) (hb:But (λ_=>False) w w'):jm w' F A s:=(p.lts.frame λb fP=>hb.keep b fP.2 λx=>x).mono λ_ h=>h.1
theorem jm.Ul {B:Nat->Prop} {sP':Nat->Nat->Nat×Nat×Nat} {wm:Nat->Nat->Option Sg} (p:jm w F A s) (hb:But B w w') (hF:∀b,F b->F' b)
  (hB:∀b,B b->b<w.heap.size->(∃cur,w.heap[b]?=some (ax cur 92 (0,0)))\/b=A.sm\/∃x y,x<4/\y<4/\(s.sg x y).isSome=true/\b=(A.sP x y).2.2) (hs:tQ w' F' {A with sP:=sP'} wm):jm w' F' {A with sP:=sP'} {s with sg:=wm}:=by
 have lt:∀{b:Nat} {o:Obj},w.heap[b]?=some o->b<w.heap.size:=λhb=>(kg hb).1;have gP:∀(b:Nat) (cur:Array aa) (ty:aS),w.heap[b]?=some (ax cur ty (0,0))->ty≠92->w'.heap[b]?=w.heap[b]?:=λb cur ty eX n1=>hb.keep b (lt eX) λe=>by
  rcases hB b e (lt eX)with⟨c,e2⟩|e2|⟨x,y,hx,hy,hz,e2⟩
  ·rw[e2]at eX;exact n1 (zw eX).symm
  ·exact p.stg.m.ty eX e2
  ·obtain⟨v,hv⟩:=bG.1 hz;exact za (p.stg.e x y v hx hy hv).2.m eX e2
 have mI:∀i,i<4->w'.heap[A.mb i]?=w.heap[A.mb i]?:=λi hi=>hb.keep _ (p.mb i hi).2.lt λe=>by
  rcases hB _ e (p.mb i hi).2.lt with⟨c,e2⟩|e2|⟨x,y,hx,hy,hz,e2⟩
  ·exact za (p.mb i hi).2 e2 rfl
  ·exact p.smb i hi e2
  ·exact(p.stg.n x y hx hy hz).2 i hi e2
 refine⟨⟨hF _ p.cl.1,(gP _ _ _ p.cl.2 (by decide)).trans p.cl.2⟩,λi hi=>⟨hF _ (p.db i hi).1,(gP _ _ _ (p.db i hi).2 (by decide)).trans (p.db i hi).2⟩,λi hi=>⟨hF _ (p.mb i hi).1,(p.mb i hi).2.block (mI i hi)⟩,p.mbi,λi hi=>?_,p.mpi,p.cvi,hs,p.smb⟩;exact(((p.mv i hi).keep (λb c _ hb=>gP b c _ hb (by decide)) (λb c _ hb=>gP b c _ hb (by decide)) (λb c _ hb=>gP b c _ hb (by decide))).mono hF).same rfl rfl rfl rfl
theorem jm.ja1 {sb db id next:Nat} {kv:KV} (p:jm w1 F A s) (hh:h<4) (hk:k<4) (hb:But (· =A.sm) w1 w') (hm:jI w' A.sm (ze (λh k=>(s.sg h k).map λ_=>(A.sP h k).1) h k (some sb)))
  (hs:iB w' sb db mb id next false kv) (lX:w.heap.size<=sb/\w.heap.size<=db/\w.heap.size<=mb) (hold:∀b,F b->b<w.heap.size) (eY:w.heap.size<=w1.heap.size):jm w' (λb=>F b\/w.heap.size<=b) {A with sP:=λa b=>if a=h/\b=k then(sb,db,mb)else A.sP a b} {s with sg:=ze s.sg h k (some ⟨id,next,kv,false⟩)}:=by
 have old:∀a b x,a<4->b<4->s.sg a b=some x->(A.sP a b).1<w.heap.size/\(A.sP a b).2.2<w.heap.size:=λa b x ha hb hx=>⟨hold _ (p.stg.e a b x ha hb hx).1.1,hold _ (p.stg.e a b x ha hb hx).1.2.2⟩
 have olds:∀a b,a<4->b<4->(s.sg a b).isSome=true->(A.sP a b).1<w.heap.size/\(A.sP a b).2.2<w.heap.size:=λa b ha hb hz=>by
  obtain⟨v,hv⟩:=bG.1 hz;exact old a b v ha hb hv
 have keep:∀b,F b->b≠A.sm->w'.heap[b]?=w1.heap[b]?:=λb hf eG=>hb.keep b (xll (hold b hf) eY) eG;refine p.Ul hb (λ_ h=>.inl h) (λb e _=>.inr (.inl e)) ⟨.inl p.stg.f,?_,λa b x ha hb hx=>?_,λa b c d ha hb hc hd h1 h2 h3=>?_,λa b ha hb hz=>?_⟩
 ·have e:(λa b=>(ze s.sg h k (some ⟨id,next,kv,false⟩) a b).map λ_=>(if a=h/\b=k then(sb,db,mb)else A.sP a b).1)=ze (λh k=>(s.sg h k).map λ_=>(A.sP h k).1) h k (some sb):=by
   funext a b;unfold ze;by_cases e:a=h/\b=k
   ·simp only[if_pos e];rfl
   ·simp only[if_neg e]
  show jI w' A.sm (λa b=>(ze s.sg h k (some ⟨id,next,kv,false⟩) a b).map λ_=>(if a=h/\b=k then(sb,db,mb)else A.sP a b).1);rw[e];exact hm
 ·replace hx:ze s.sg h k (some ⟨id,next,kv,false⟩) a b=some x:=hx;by_cases e:a=h/\b=k
  ·obtain⟨rfl,rfl⟩:=e;rw[vw]at hx;cases hx;show(_/\_/\_)/\iB w' (if a=a/\b=b then(sb,db,mb)else A.sP a b).1 (if a=a/\b=b then(sb,db,mb)else A.sP a b).2.1 (if a=a/\b=b then(sb,db,mb)else A.sP a b).2.2 _ _ _ _;simp only[and_self,if_true];exact⟨⟨.inr lX.1,.inr lX.2.1,.inr lX.2.2⟩,hs⟩
  ·rw[zi e]at hx;obtain⟨⟨h1,h2,h3⟩,h4⟩:=p.stg.e a b x ha hb hx;show(_/\_/\_)/\iB w' (if a=h/\b=k then(sb,db,mb)else A.sP a b).1 (if a=h/\b=k then(sb,db,mb)else A.sP a b).2.1 (if a=h/\b=k then(sb,db,mb)else A.sP a b).2.2 _ _ _ _;simp only[if_neg e];exact⟨⟨.inl h1,.inl h2,.inl h3⟩,h4.block λq hq=>keep q (by rcases hq with rfl|rfl|rfl<;>assumption) (by
    rcases hq with rfl|rfl|rfl
    ·exact p.stg.m.ty h4.s
    ·exact p.stg.m.ty h4.d
    ·exact λe2=>(p.stg.n a b ha hb (by rw[hx];rfl)).1 e2.symm)⟩
 ·replace h1:(ze s.sg h k (some ⟨id,next,kv,false⟩) a b).isSome=true:=h1;replace h2:(ze s.sg h k (some ⟨id,next,kv,false⟩) c d).isSome=true:=h2;replace h3:(if a=h/\b=k then(sb,db,mb)else A.sP a b).1=(if c=h/\d=k then(sb,db,mb)else A.sP c d).1\/(if a=h/\b=k then(sb,db,mb)else A.sP a b).2.2=(if c=h/\d=k then(sb,db,mb)else A.sP c d).2.2:=h3;by_cases e1:a=h/\b=k
  ·by_cases e2:c=h/\d=k
   ·omega
   ·rw[zi e2]at h2;have:=olds c d hc hd h2;simp only[if_pos e1,if_neg e2]at h3;omega
  ·rw[zi e1]at h1;by_cases e2:c=h/\d=k
   ·have:=olds a b ha hb h1;simp only[if_pos e2,if_neg e1]at h3;omega
   ·rw[zi e2]at h2;simp only[if_neg e2,if_neg e1]at h3;exact p.stg.i a b c d ha hb hc hd h1 h2 h3
 ·replace hz:(ze s.sg h k (some ⟨id,next,kv,false⟩) a b).isSome=true:=hz;show A.sm≠(if a=h/\b=k then(sb,db,mb)else A.sP a b).2.2/\∀i,i<4->A.mb i≠(if a=h/\b=k then(sb,db,mb)else A.sP a b).2.2;by_cases e:a=h/\b=k
  ·simp only[if_pos e];have h1:=hold _ p.stg.f;exact⟨by omega,λi hi=>by have:=hold _ (p.mb i hi).1;omega⟩
  ·simp only[if_neg e];rw[zi e]at hz;exact p.stg.n a b ha hb hz
theorem jm.ja2 {x:Sg} {id next:Nat} {done:Bool} {kv:KV} (p:jm w F A s) (hh:h<4) (hk:k<4) (hx:s.sg h k=some x) (hb:But (λb=>b=(A.sP h k).1\/b=(A.sP h k).2.2) w w') (hs:iB w' (A.sP h k).1 (A.sP h k).2.1 (A.sP h k).2.2 id next done kv):
  jm w' F A {s with sg:=ze s.sg h k (some ⟨id,next,kv,done⟩)}/\But F w w':=by
 have hX:=p.stg.e h k x hh hk hx;have hz:(s.sg h k).isSome=true:=by rw[hx];rfl
 have Mr:∀a b,(ze s.sg h k (some ⟨id,next,kv,done⟩) a b).isSome=(s.sg a b).isSome:=λa b=>by
  by_cases e:a=h/\b=k
  ·obtain⟨rfl,rfl⟩:=e;rw[vw,hz];rfl
  ·rw[zi e]
 refine⟨p.Ul (sP':=A.sP) hb (λ_ h=>h) (λb e _=>e.elim (λe=>.inl ⟨_,e▸hX.2.s⟩) λe=>.inr (.inr ⟨h,k,hh,hk,hz,e⟩)) ⟨p.stg.f,?_,λa b y ha fP hy=>?_,λa b c d ha hb hc hd h1 h2 h3=>p.stg.i a b c d ha hb hc hd (by rwa [Mr]at h1) (by rwa [Mr]at h2) h3,λa b ha hb hz=>p.stg.n a b ha hb (by rwa [Mr]at hz)⟩,hb.mono λb e=>e.elim (λe=>e▸hX.1.1) λe=>e▸hX.1.2.2⟩
 ·have e:(λa b=>(ze s.sg h k (some ⟨id,next,kv,done⟩) a b).map λ_=>(A.sP a b).1)=λa b=>(s.sg a b).map λ_=>(A.sP a b).1:=by
   funext a b;by_cases e:a=h/\b=k
   ·obtain⟨rfl,rfl⟩:=e;rw[vw,hx];rfl
   ·rw[zi e]
  show jI w' A.sm λa b=>(ze s.sg h k (some ⟨id,next,kv,done⟩) a b).map λ_=>(A.sP a b).1;rw[e];refine p.stg.m.block (hb.keep _ p.stg.m.lt λe=>?_);rcases e with e|e
  ·exact p.stg.m.ty hX.2.s e.symm
  ·exact(p.stg.n h k hh hk hz).1 e
 ·by_cases e:a=h/\b=k
  ·obtain⟨rfl,rfl⟩:=e;replace hy:ze s.sg a b (some ⟨id,next,kv,done⟩) a b=some y:=hy;rw[vw]at hy;cases hy;exact⟨hX.1,hs⟩
  ·replace hy:ze s.sg h k (some ⟨id,next,kv,done⟩) a b=some y:=hy;rw[zi e]at hy;obtain⟨h1,h4⟩:=p.stg.e a b y ha fP hy;have pq:(s.sg a b).isSome=true:=by rw[hy];rfl
   refine⟨h1,h4.block λq hq=>hb.keep q ?_ ?_⟩
   ·rcases hq with rfl|rfl|rfl
    ·exact(kg h4.s).1
    ·exact(kg h4.d).1
    ·exact h4.m.lt
   ·rcases hq with rfl|rfl|rfl
    ·rintro(e2|e2)
     ·exact e (p.stg.i a b h k ha fP hh hk pq hz (.inl e2))
     ·exact za hX.2.m h4.s e2
    ·rintro(e2|e2)
     ·have h5:=h4.d;rw[e2,hX.2.s]at h5;exact absurd (zw h5) (by decide)
     ·exact za hX.2.m h4.d e2
    ·rintro(e2|e2)
     ·exact za h4.m hX.2.s e2.symm
     ·exact e (p.stg.i a b h k ha fP hh hk pq hz (.inr e2))
end
end Go.Proofs.YtkpekiajdlolnaaGreat
namespace Go.Proofs.YtkpekiajdlolnaaGreat.Ph
open Go.Conc Go.ConcN Go.RowKit Go.Maps Go.Conc.Lib Go Sim
theorem jv.idleB {F:Nat->Prop} {A:PA} {s:St} {v:aa} (h:jm w F A s) (hb:But (λ_=>False) w w'):jv w F A v s (.returned v) w':=⟨rfl,A,rfl,(h.idle hb).mono λ_ h=>.inl h,hb.mono λ_ x=>x.elim⟩
def mg (f:Fr) (k:Nat):Bs:=Fr.bytes ⟨k,f.qc,f.id,f.n,[]⟩
theorem XA (kd:Int) (sh id n k:Nat) (ld:ByteArray) (hk:k<256) (iN:sh<256) (hid:id<9223372036854775808) (hn:n<9223372036854775808):
  aK prog 42 #[.agg #[.int .u8 kd,.int .i64 sh,.int .i64 id,.int .i64 n,.string ld],.int .u8 k] w λe w'=>e=.returned (sv (Fr.bytes ⟨k,sh,id,n,[]⟩))/\But (λ_=>False) w w':=by
 have HB:=Hd (λw=>Eu (w:=w) k sh id n ⟨#[]⟩ hk iN hid hn (by decide));have e1:sv (Fr.bytes ⟨k,sh,id,n,[]⟩)=.string (frB k sh id n ⟨#[]⟩):=rfl;rw[e1];clear e1;generalize frB k sh id n ⟨#[]⟩=fb at*;go_enter func42,ntmps42;go_wp2_with (go_at_call 39;refine(HB.o _).mono ?_;rintro e w2 ⟨rfl,h2⟩;have H2:=Hd h2;clear h2)
 go_ret;exact⟨rfl,But.of_below (((j5 _ _).alloc (jd _) _).trans (H2.mono (by simp)))⟩
def dlF (f:Fr) (o:Option Sg):Bs×Option Sg:=
 if f.kind=1 then
  if f.n≠0\/f.load≠[]\/(∃x,o=some x/\f.id<x.id)then([],o)
  else(mg f 5,match o with
   |none=>some ⟨f.id,1,[],false⟩
   |some x=>if x.id<f.id then some ⟨f.id,1,[],false⟩else some x)
 else match o with
  |none=>(mg f 6,none)
  |some x=>if x.id<f.id then(mg f 6,some x)else if f.id<x.id then([],some x)else if x.next<f.n then(mg f 6,some x)
   else if f.n<x.next then(mg f 5,some x)else if x.done then([],some x)
   else if(kF f.kind f.qc f.load x.kv).1 then(mg f 5,some ⟨x.id,x.next+1,(kF f.kind f.qc f.load x.kv).2.1,(kF f.kind f.qc f.load x.kv).2.2⟩)else([],some x)
def Ad (f:Fr):Bool:=decide (f.qc<4)&&decide (1<=f.kind)&&decide (f.kind<=4)
def dlE (s:St) (h:Int):Int:=if h<0\/s.hosts<=h then 1 else 0
def dlR (s:St) (h:Int) (u:Bs):Bs×St:=if h<0\/s.hosts<=h then([],s)else match xg u with
 |none=>([],s)
 |some f=>if Ad f then((dlF f (s.sg h.toNat f.qc)).1,{s with sg:=ze s.sg h.toNat f.qc (dlF f (s.sg h.toNat f.qc)).2})else([],s)
theorem XJ {α:Type} {f:Nat->Nat->Option α} {k:Nat} {o:Option α} (e:f h k=o):ze f h k o=f:=by
 funext a b;by_cases e2:a=h/\b=k
 ·obtain⟨rfl,rfl⟩:=e2;rw[vw,e]
 ·rw[zi e2]
theorem qL {f:Fr} (h:ld.data.toList=f.load):frV f=.agg #[.int .u8 f.kind,.int .i64 f.qc,.int .i64 f.id,.int .i64 f.n,.string ld]:=by unfold frV;rw[jb h]
section
variable {w w':ac} {F:Nat->Prop} {A:PA} {s:St}
structure DvW (w0:ac) (F:Nat->Prop) (A:PA) (s:St) (h:Nat) (f:Fr) (fb pb:Nat) (w:ac):Prop where
 p:jm w F A s
 b:But (λ_=>False) w0 w
 fr:w.heap[fb]?=some (.cells #[.int .u8 f.kind,.int .i64 f.qc,.int .i64 f.id,.int .i64 f.n,sv f.load] 78 (0,0))
 q:w.heap[pb]?=some (.cells #[.int .i64 h,.int .i64 f.qc] 89 (0,0))
theorem DvW.drewN {fb:Nat} {f:Fr} (d:DvW w0 F A s h f fb pb w) (n:Nat):DvW w0 F A s h f fb pb (w.drewN n):=⟨d.p.idle (But.drewN (But.refl _ _) n),d.b.drewN n,d.fr,d.q⟩
theorem DvW.of {f:Fr} (p:jm w0 F A s) (hb:But (λ_=>False) w0 w) (fH:ld.data.toList=f.load):DvW w0 F A s h f w.heap.size (w.heap.size+1) ((w.alloc (.cells #[.int .u8 f.kind,.int .i64 f.qc,.int .i64 f.id,.int .i64 f.n,.string ld] 78)).alloc (.cells #[.int .i64 h,.int .i64 f.qc] 89)):=by
 have fO:=hb.trans (But.of_below (B:=λ_=>False) (((j5 w.heap.size w).alloc (jd _) (.cells #[.int .u8 f.kind,.int .i64 f.qc,.int .i64 f.id,.int .i64 f.n,.string ld] 78)).alloc (by simp) (.cells #[.int .i64 h,.int .i64 f.qc] 89)));exact⟨p.idle fO,fO,by rw[aI _ _ (by simp),bu,jb fH],heap_alloc_new' _ _ (by simp)⟩
theorem DvW.cells {w0:ac} {h fb pb:Nat} {f:Fr} {ld:ByteArray} (d:DvW w0 F A s h f fb pb w) (fH:ld.data.toList=f.load):w.cell? ⟨fb,0,none⟩=some (.int .u8 f.kind)/\w.cell? ⟨fb,1,none⟩=some (.int .i64 f.qc)/\w.cell? ⟨fb,2,none⟩=some (.int .i64 f.id)/\w.cell? ⟨fb,3,none⟩=some (.int .i64 f.n)/\w.cell? ⟨fb,4,none⟩=some (.string ld)/\w.cell? ⟨pb,0,none⟩=some (.int .i64 h)/\w.cell? ⟨pb,1,none⟩=some (.int .i64 f.qc)/\w.cell? ⟨A.cl,13,none⟩=some (.map (some A.sm)):=by
 have h1:=d.fr;rw[jb fH]at h1;exact⟨by simp[ae,h1],by simp[ae,h1],by simp[ae,h1],by simp[ae,h1],by simp[ae,h1],by simp[ae,d.q],by simp[ae,d.q],(d.p.cells 13 _ rfl).1⟩
theorem jm.look {k:Nat} (p:jm w F A s) (hh:h<4) (hk:k<4):(Instr.lookup 68 (.map (some A.sm)) (.agg #[.int .i64 h,.int .i64 k]) false).run prog w=.ok (ptr ((s.sg h k).map λ_=>(A.sP h k).1)) w:=p.stg.m.look hh hk
theorem q8t (f:Fr) (hf:f.Ok) (k:Nat) (hk:k<256) (ld:ByteArray) (W:ac):aK prog 42 #[.agg #[.int .u8 f.kind,.int .i64 f.qc,.int .i64 f.id,.int .i64 f.n,.string ld],.int .u8 k] W λe w'=>e=.returned (sv (mg f k))/\But (λ_=>False) W w':=
 XA f.kind f.qc f.id f.n k ld hk hf.qc (by have:=hf.id;omega) (by have:=hf.n;omega)
theorem DvW.same {fb:Nat} {f:Fr} {v:aa} {b:Bs} (d:DvW w0 F A s h f fb pb w) (p0:jm w0 F A s) (hb:But (λ_=>False) w w2) (e:dlF f (s.sg h f.qc)=(b,s.sg h f.qc)) (hv:v=.tuple #[sv b,.int .i64 0]):
  jv w0 F A (.tuple #[sv (dlF f (s.sg h f.qc)).1,.int .i64 0]) {s with sg:=ze s.sg h f.qc (dlF f (s.sg h f.qc)).2} (.returned v) w2:=by
 rw[e,hv];simp only[XJ rfl];exact .idleB p0 (d.b.trans hb)
theorem DvW.stage {fb:Nat} {f:Fr} (d:DvW w0 F A s h f fb pb w) (p0:jm w0 F A s) (hh:h<4) (hs:f.qc<4) (e:w2=nY w.drew) (fH:ld.data.toList=f.load):∃w9,(Instr.mapUpdate 68 (.map (some A.sm)) (.agg #[.int .i64 h,.int .i64 f.qc]) (.pointer (some ⟨w2.heap.size,0,none⟩))).run prog (w2.alloc (.cells #[.int .i64 f.id,.int .i64 1,.pointer (some ⟨w.heap.size+1,0,none⟩),.bool false] 92))=.ok () w9/\
  Hid ((∃A',A'.cl=A.cl/\jm w9 (λb=>F b\/w0.heap.size<=b) A' {s with sg:=ze s.sg h f.qc (some ⟨f.id,1,[],false⟩)})/\But F w0 w9)/\w9.cell? ⟨fb,0,none⟩=some (.int .u8 f.kind)/\w9.cell? ⟨fb,1,none⟩=some (.int .i64 f.qc)/\w9.cell? ⟨fb,2,none⟩=some (.int .i64 f.id)/\w9.cell? ⟨fb,3,none⟩=some (.int .i64 f.n)/\w9.cell? ⟨fb,4,none⟩=some (.string ld)/\w2.cell? ⟨fb,2,none⟩=some (.int .i64 f.id)/\w2.cell? ⟨pb,0,none⟩=some (.int .i64 h)/\w2.cell? ⟨pb,1,none⟩=some (.int .i64 f.qc)/\w2.cell? ⟨A.cl,13,none⟩=some (.map (some A.sm))/\fb<w2.heap.size/\pb<w2.heap.size/\A.cl<w2.heap.size:=by
 have b1:aA w.heap.size w w2:=by rw[e];exact((j5 _ _).drew.alloc (jd _) _).alloc (by simp) _
 have pq:w2.heap.size=w.heap.size+2:=by rw[e];simp[nY]
 have m2:w2.heap[w.heap.size]?=some (.map #[] 0):=by rw[e];unfold nY;rw[aI _ _ (by simp)];exact heap_alloc_new' _ _ rfl
 have c2:w2.heap[w.heap.size+1]?=some (.cells #[.map (some w.heap.size)] 130 (0,0)):=by rw[e];exact heap_alloc_new' _ _ (by simp)
 obtain⟨w3,h3⟩:∃w3,w2.alloc (.cells #[.int .i64 f.id,.int .i64 1,.pointer (some ⟨w.heap.size+1,0,none⟩),.bool false] 92)=w3:=⟨_,rfl⟩
 have b2:aA w.heap.size w w3:=by rw[<-h3];exact b1.alloc b1.size _
 have s3:w3.heap[w2.heap.size]?=some (.cells #[.int .i64 f.id,.int .i64 1,.pointer (some ⟨w.heap.size+1,0,none⟩),.bool false] 92 (0,0)):=by rw[<-h3];exact bu _ _
 have m3:w3.heap[w.heap.size]?=some (.map #[] 0):=by rw[<-h3,aI _ _ (by omega)];exact m2
 have c3:w3.heap[w.heap.size+1]?=some (.cells #[.map (some w.heap.size)] 130 (0,0)):=by rw[<-h3,aI _ _ (by omega)];exact c2
 rw[h3];have bt:But (λ_=>False) w0 w3:=d.b.trans (But.of_below b2);have p3:jm w3 (λb=>F b/\b<w0.heap.size) A s:=p0.lts.idle bt;obtain⟨w9,eT,hm,hb⟩:=p3.stg.m.put hh hs w2.heap.size;have hsm:A.sm<w0.heap.size:=p3.stg.f.2;have hz:w0.heap.size<=w.heap.size:=d.b.size;have kp:∀b,b<w3.heap.size->b≠A.sm->w9.heap[b]?=w3.heap[b]?:=λb h1 h2=>hb.keep b h1 h2;have IV:∀{b:Nat} {o:Obj},w3.heap[b]?=some o->b<w3.heap.size:=λhb=>(kg hb).1;have f9:w9.heap[fb]?=some (.cells #[.int .u8 f.kind,.int .i64 f.qc,.int .i64 f.id,.int .i64 f.n,.string ld] 78 (0,0)):=by
  have h1:=(b2.block fb (kg d.fr).1).trans d.fr;rw[jb fH]at h1;exact(kp fb (IV h1) (p3.stg.m.ty h1)).trans h1
 refine⟨w9,eT,Hd ⟨⟨_,by rfl,(p3.ja1 (w:=w0) (id:=f.id) (next:=1) (kv:=[]) (sb:=w2.heap.size) (db:=w.heap.size+1) (mb:=w.heap.size) hh hs hb hm ⟨(kp _ (IV s3) (by omega)).trans s3,(kp _ (IV c3) (by omega)).trans c3,Ku ((kp _ (IV m3) (by omega)).trans m3)⟩ ⟨by omega,by omega,hz⟩ (λb h=>h.2) bt.size).mono λb h=>h.imp (·.1) id⟩,(bt.mono λ_ x=>x.elim).trans (hb.mono λb e=>e▸p3.stg.f.1)⟩,by simp[ae,f9],by simp[ae,f9],by simp[ae,f9],by simp[ae,f9],by simp[ae,f9],?_⟩;obtain⟨_,_,x2,_,_,y0,y1,z0⟩:=d.cells fH;have cc:=λ(a:Addr) (v:aa) (hv:w.cell? a=some v)=>(b1.cell (xbl w a hv)).trans hv;have l1:=(kg d.fr).1;have l2:=(kg d.q).1;have l3:=d.p.clt;exact⟨cc _ _ x2,cc _ _ y0,cc _ _ y1,cc _ _ z0,by omega,by omega,by omega⟩
theorem JW (y:Nat->aa):lay 168 y=#[y 0,y 1,y 2,y 3,y 4,y 5,y 6,y 7,y 8,y 9,y 10,y 11,y 12,y 13,y 14,y 15,y 16,y 17,y 18,y 19,y 20,y 21,y 22,y 23,y 24,y 25,y 26,y 27,y 28,y 29,y 30,y 31,y 32,y 33,y 34,y 35,y 36,y 37,y 38,y 39,y 40,y 41,y 42,y 43,y 44,y 45,y 46,y 47,y 48,y 49,y 50,y 51,y 52,y 53,y 54,y 55,y 56,y 57,y 58,y 59,y 60,y 61,y 62,y 63,y 64,y 65,y 66,y 67,y 68,y 69,y 70,y 71,y 72,y 73,y 74,y 75,y 76,y 77,y 78,y 79,y 80,y 81,y 82,y 83,y 84,y 85,y 86,y 87,y 88,y 89,y 90,y 91,y 92,y 93,y 94,y 95,y 96,y 97,y 98,y 99,y 100,y 101,y 102,y 103,y 104,y 105,y 106,y 107,y 108,y 109,y 110,y 111,y 112,y 113,y 114,y 115,y 116,y 117,y 118,y 119,y 120,y 121,y 122,y 123,y 124,y 125,y 126,y 127,y 128,y 129,y 130,y 131,y 132,y 133,y 134,y 135,y 136,y 137,y 138,y 139,y 140,y 141,y 142,y 143,y 144,y 145,y 146,y 147,y 148,y 149,y 150,y 151,y 152,y 153,y 154,y 155,y 156,y 157,y 158,y 159,y 160,y 161,y 162,y 163,y 164,y 165,y 166,y 167]:=rfl
theorem jea {w:ac} (h:t.size=n) (g:K ⟨lay n λj=>t.getD j aX,[]⟩ w):K ⟨t,[]⟩ w:=by
 have e:lay n (λj=>t.getD j aX)=t:=by
  apply bP
  ·simp[lay,h]
  ·intro i h1 h2;simp[lay,cy,h2]
 rwa [e]at g
noncomputable def DR:Array Oper:=match Tryz.f17.body with
 |some (.seq _ (.seq _ (.seq _ (.seq _ (.seq _ (.seq _ (.seq (.seq _ (.cond _ (.seq _ (.seq (.seq _ (.cond _ a _)) _)) _)) _)))))))=>rg a
 |_=>#[]
theorem q80 {fb:Nat} {f:Fr} {x:Nat->aa} {K1:Act->ac->Prop} {PP:cw->ac->Prop} (d:DvW w0 F A s h f fb pb w) (p0:jm w0 F A s) (hh:h<4) (hs:f.qc<4) (fH:ld.data.toList=f.load) (x0:x 0=.pointer (some ⟨A.cl,0,none⟩)) (x8:x 8=.pointer (some ⟨fb,0,none⟩)) (gF:x 10=.pointer (some ⟨pb,0,none⟩))
  (done:∀(y:Nat->aa) (w9:ac),y 8=.pointer (some ⟨fb,0,none⟩)->Hid ((∃A',A'.cl=A.cl/\jm w9 (λb=>F b\/w0.heap.size<=b) A' {s with sg:=ze s.sg h f.qc (some ⟨f.id,1,[],false⟩)})/\But F w0 w9)->w9.cell? ⟨fb,0,none⟩=some (.int .u8 f.kind)->w9.cell? ⟨fb,1,none⟩=some (.int .i64 f.qc)->w9.cell? ⟨fb,2,none⟩=some (.int .i64 f.id)->w9.cell? ⟨fb,3,none⟩=some (.int .i64 f.n)->w9.cell? ⟨fb,4,none⟩=some (.string ld)->K ⟨lay 168 y,[]⟩ w9):
  bT prog (aC 12 DR true) (Exit.then K (Exit.then K1 (bodyPost prog Tryz.f17 PP))) ⟨lay 168 x,[]⟩ w:=by
 obtain⟨k0,k1,k2,k3,k4,q0,q1,m0⟩:=d.cells fH;have D:=Hd d;have P:=Hd p0;have HH:=Hd hh;have HS:=Hd hs;have HL:=Hd fH;have HD:=Hd done;clear d p0 hh hs fH done;obtain⟨x,rfl⟩:=qb x0;obtain⟨x,rfl⟩:=qb (x:=x) (j:=8) (v:=.pointer (some ⟨fb,0,none⟩)) x8;obtain⟨x,rfl⟩:=qb (x:=x) (j:=10) (v:=.pointer (some ⟨pb,0,none⟩)) gF;clear x0 x8 gF;rw[JW];unfold DR;simp only[Tryz.f17,rg,upd,cg,if_true,if_false];go_region_with (first|(go_at_call 41;refine KD.mono ?_;rintro e w2 ⟨rfl,h2⟩;obtain⟨w9,eT,H9,z0,z1,z2,z3,z4,y2,yz0,yz1,y13,l1,l2,l3⟩:=D.stage P.out HH.o HS.o h2 HL.o;clear h2))
 all_goals exact jea rfl (HD.o _ _ rfl H9 z0 z1 z2 z3 z4)
end
end Go.Proofs.YtkpekiajdlolnaaGreat.Ph
