/- PROVED: part 5 of the claim's ground. Conditions: those that each theorem names. -/
import Derived.Test.YtkpekiajdlolnabGreatM04
import Derived.Deep.AppendLies
import Derived.Deep.RegionLaw
import Derived.Test.YtkpekiajdlolnabGreatM03
import Derived.Shelf.SlIter.Nil
import Derived.Shelf.SortM.Plain
import Derived.Shelf.SortM.SortNone
import Derived.Ground.GgzProg
import Derived.Ground.SlgmProg
import Derived.Sort.KeysCollected
import Derived.Sort.Walk0
import Derived.Deep.RegionWith
import Derived.Carry
set_option linter.unusedVariables false
set_option linter.unusedSimpArgs false
set_option maxRecDepth 100000
set_option maxHeartbeats 16000000
variable{B:Nat->Prop} {C i j mb n nn:Nat} {L X l:Go.Proofs.YtkpekiajdlolnabGreat.KV} {g lg:Bool} {k last pb s sb vb yh:ByteArray} {p:Go.Proofs.YtkpekiajdlolnabGreat.Bs×Go.Proofs.YtkpekiajdlolnabGreat.Bs} {pv:Go.Value} {to:Int} {w w1 w2 w3 wA:Go.World}
open Go.Proofs.Tryz
open Go renaming World→aa,Value→ah,bytesBefore→aw,heap_alloc_new→az,Calls→aD,maxLen→aE,wp_region_still_tail→aM,heap_alloc_old→aU,execOp→aW,wpList_append_own→bm,TypeId→bo,wpStill_nil→bw,undef→bC,bodyPost_ret→bH,Ending→bK,Operand→bQ
open And renaming intro→ac
open Option renaming bind_some→ae,bind_eq_some_iff→ao,map_eq_some_iff→aS,bind_none→aY,isSome_iff_exists→bp
open Go.World renaming cell?→ag,frozen?→aF,ownsRow_nil→aL
open Go.ByteArray renaming toList_eq→ai
open List renaming take_succ_cons→aj,getElem?_eq_some_iff→am,length_append→aq,length_take→ax,getElem?_eq_getElem→ay,append_assoc→aA,drop_eq_getElem_cons→aG,mem_of_getElem?→aH,length_cons→aK,drop_succ_cons→aN,append_nil→aO,take_succ_eq_append_getElem→aV,length_filter_le→aX,mem_of_mem_take→bd,eq_nil_of_length_eq_zero→bg,take_zero→bj,drop_zero→bk,getElem?_eq_none→bq,mem_cons→bB,getElem?_drop→bD,pairwise_cons→bF,getElem?_map→bI,take_length→bM,cons_append→bN,length_nil→bO
open Go.RowKit renaming Below→au
open Go.Obj renaming cells→av
open Int renaming toNat_natCast→aC,lt_or_le→bJ
open Go.Op renaming bytesLess→aI
open Bool renaming and_eq_true→aJ,false_eq_true→bE,and_false→bT,true_and→bY
open Nat renaming lt_of_le_of_lt→aP,zero_add→aR,lt_irrefl→bX,lt_or_ge→ce
open Go.Code renaming region→aQ,wp→bP
open Go.RowKit.Below renaming drew→aZ
open Go.Addr renaming add_lit→bh
open ByteArray renaming size→bi,data_append→bu
namespace Go.Proofs.YtkpekiajdlolnabGreat
section
open Go.RowKit Go.Maps
section
variable {w:aa}
def qR:Bs->KV->Bs->Nat->Bs×Nat
 |_,[],s,n=>(s,n)
 |last,p::r,s,n=>if 0<n/\40<1+s.length+(xq last p.1 p.2).length then(s,n)else qR p.1 r (s++xq last p.1 p.2) (n+1)
def mU (l:KV):Bs×Nat:=(vz (qR [] l [] 0).2++(qR [] l [] 0).1,(qR [] l [] 0).2)
def J8 (w:aa) (v:ah) (l:KV):Prop:= ∃sa cp,v=.slice sa l.length cp/\∀i p,l[i]?=some p->∃g o,sa=some ⟨g,o,none⟩/\w.cell? ⟨g,o+i*2,none⟩=some (sv p.1)/\w.cell? ⟨g,o+i*2+1,none⟩=some (sv p.2)
structure FbW (w:aa) (l:KV) (last yh sb:ByteArray) (nn j:Nat) (wr:aa):Prop where
 eq:qR [] l [] 0=qR last.data.toList (l.drop j) sb.data.toList nn
 sz:sb.size<=39
 c:wr.heap[w.heap.size]?=some (.cells #[.string last,.string yh] 74 (0,0))
 b:au w.heap.size w wr
 ll:last.size<=8
theorem FbW.below {w wr:aa} (h:FbW w l last yh sb nn j wr) (hb:au wr.heap.size wr w2):FbW w l last yh sb nn j w2:={h with c:=(hb.block _ (yx h.c).1).trans h.c,b:=h.b.trans (hb.mono h.b.size)}
theorem FbW.cells {last yh sb:ByteArray} {w wr:aa} {l:KV} {nn j:Nat} (h:FbW w l last yh sb nn j wr):wr.cell? ⟨w.heap.size,0,none⟩=some (.string last)/\wr.cell? ⟨w.heap.size,1,none⟩=some (.string yh)/\(∀i,wr.frozen? ⟨w.heap.size,i,none⟩=false):=⟨by simp[ag,h.c],by simp[ag,h.c],λi=>by simp[aF,h.c]⟩
theorem FbW.more {w:aa} {kb:ByteArray} (h:FbW w l last yh sb nn j w2) (hp:l[j]?=some p) (iG:kb.data.toList=p.1) (nC:vb.data.toList=p.2) (mg:bsB (xq last.data.toList p.1 p.2)=pb) (fF:¬(0<nn/\40<1+sb.size+pb.size)) (eU:pb.size<=25) (nM:kb.size<=8) (Bo:nn=0->sb.size=0):
  FbW w l kb vb (sb++pb) (nn+1) (j+1) ((w2.setCell ⟨w.heap.size,0,none⟩ (.string kb)).setCell ⟨w.heap.size,1,none⟩ (.string vb)):=by
 have qZ:pb.size=(xq last.data.toList p.1 p.2).length:=by rw[<-mg,tO]
 have fE:(sb++pb).size=sb.size+pb.size:=by simp
 refine{eq:=?_,sz:=by rw[fE];omega,c:=?_,b:=(h.b.setCell (ji _) _).setCell (ji _) _,ll:=nM}
 ·obtain⟨hj,rfl⟩:=am.1 hp;rw[h.eq,aG hj,qR,if_neg (by rw[<-qZ];simpa using fF)];have e2:(sb++pb).data.toList=sb.data.toList++xq last.data.toList l[j].1 l[j].2:=by
   rw[<-mg];simp[bsB]
  rw[e2,iG]
 ·have c1:=xhs w2 w.heap.size 0 _ _ (.string kb) h.c;have c2:=xhs _ w.heap.size 1 _ _ (.string vb) c1;exact c2
theorem FbW.stop {w wr:aa} (h:FbW w l last yh sb nn j wr) (hp:l[j]?=some p) (mg:bsB (xq last.data.toList p.1 p.2)=pb) (fF:0<nn/\40<1+sb.size+pb.size):qR [] l [] 0=(sb.data.toList,nn):=by
 have qZ:pb.size=(xq last.data.toList p.1 p.2).length:=by rw[<-mg,tO]
 obtain⟨hj,rfl⟩:=am.1 hp;rw[h.eq,aG hj,qR,if_pos (by rw[<-qZ];simpa using fF)]
theorem FbW.fin {w wr:aa} (h:FbW w l last yh sb nn l.length wr):qR [] l [] 0=(sb.data.toList,nn):=by
 rw[h.eq,List.drop_length,qR]
theorem UH (h:qR [] l [] 0=(sb.data.toList,nn)):bsB (mU l).1=(⟨(vz nn).toArray⟩:ByteArray)++sb/\(mU l).2=nn:=by
 unfold mU;rw[h];exact⟨by rw[<-Cv,U8 (b:=sb) rfl];rfl,rfl⟩
theorem q6h {v:ah} (hv:J8 w v l) (hl:l.length<=1000000) (hk:∀p∈l,p.1.length<=8/\p.2.length<=12):aD prog 110 #[v,.func (.func 111) #[] #[]] w λe w'=>e=.returned (.tuple #[.string (bsB (mU l).1),.int .i64 ((mU l).2:Nat)])/\au w.heap.size w w':=by
 obtain⟨sa,cp,rfl,hc⟩:=hv;have HC:=Hd hc;have HK:=Hd hk;clear hc hk;go_enter func110,ntmps110;go_wp2;go_loopw [7,8,14] (λs n i wr=>∃(j nn:Nat) (last yh sb:ByteArray),s=.string sb/\n=.int .i64 nn/\i=.int .i64 j/\j<=l.length/\nn<=j/\Hid (FbW w l last yh sb nn j wr/\(nn=0->sb.size=0))) (λ_ _ i _=>l.length-(intOf i).toNat);case atStart=>exact⟨0,0,⟨#[]⟩,⟨#[]⟩,⟨#[]⟩,rfl,rfl,rfl,xzl _,ji _,Hd ⟨{eq:=by simp,sz:=by decide,c:=az _ _,b:=(zk _ _).alloc (ji _) _,ll:=xzl _},λ_=>rfl⟩⟩
 case round=>
  obtain⟨j,nn,last,yh,sb,rfl,rfl,rfl,hj,xG,HW⟩:=hrel;have fE:=HW.1.sz;by_cases jO:j<l.length
  ·obtain⟨p,hp⟩:∃p,l[j]?=some p:=⟨_,ay jO⟩
   obtain⟨g,o,rfl,dd⟩:=HC.o j p hp;obtain⟨Dk,Cf⟩:=HK.o p (aH hp);obtain⟨kb,iG⟩:=qp p.1;obtain⟨vb,nC⟩:=qp p.2;rw[jf iG,jf nC]at dd;have G9:kb.size<=8:=by rw[vP iG];exact Dk
   have NY:vb.size<=12:=by rw[vP nC];exact Cf
   have dw:=λ(a:Addr) (u:ah) (h:w.cell? a=some u)=>(HW.1.b.cell (xbl w a h)).trans h;obtain⟨pb,mg⟩:∃pb,bsB (xq last.data.toList p.1 p.2)=pb:=⟨_,rfl⟩
   have Oc:pb.size<=25:=by rw[<-mg,tO];exact Uh _ _ _ (by simpa using HW.1.ll) Dk Cf
   have HP:Hid (∀W,aD prog 111 #[.agg #[.string last,.string yh],.agg #[.string kb,.string vb]] W λe w'=>e=.returned (.string pb)/\au W.heap.size W w'):=Hd λW=>by
    have h:=Za (w:=W) last yh kb vb HW.1.ll G9 NY;rw[iG,nC,mg]at h;exact h
   have HM:=Hd (ac hp (ac iG (ac nC mg)));have d0:=dw _ _ dd.1;have d1:=dw _ _ dd.2;clear dw dd hp iG nC mg Dk Cf;have HX:=Hd (HW.1.below ((zk wr.heap.size wr).alloc (ji _) (.cells #[.string kb,.string vb] 74)));obtain⟨l0,l1,lf⟩:=HX.cells;have x0:(wr.alloc (.cells #[.string kb,.string vb] 74)).cell? ⟨wr.heap.size,0,none⟩=some (.string kb):=by go_simp
   have x1:(wr.alloc (.cells #[.string kb,.string vb] 74)).cell? ⟨wr.heap.size,1,none⟩=some (.string vb):=by go_simp
   have yF:nn=0\/(0<nn/\40<1+sb.size+pb.size)\/(0<nn/\¬40<1+sb.size+pb.size):=by omega
   rcases yF with rfl|⟨h1,h2⟩|⟨h1,h2⟩;rotate_left
   ·have g1:decide (0<nn)=true:=xdt h1;have g2:decide ((40:Int)<1+sb.size+pb.size)=true:=xdt (by omega);have HE:=Hd (HW.1.stop HM.1 HM.2.2.2 ⟨h1,h2⟩);have Oi:=y5 8 nn (by omega);have y1:¬9223372036854775807<(vz nn).length+sb.size:=by omega
    go_wp2_with (first
     |(go_at_call 111;refine(HP.o _).mono ?_;rintro e w2 ⟨rfl,fJ⟩;have K2:=Hd (HX.below fJ);obtain⟨m0,m1,mf⟩:=K2.cells;clear fJ)
     |(go_at_call 113;refine(AJ nn (by omega)).mono ?_;rintro e w3 ⟨rfl,fO⟩;have K3:=Hd (K2.below fO);clear fO))
    go_ret2;obtain⟨q1,q2⟩:=UH HE.o;rw[q1,q2];exact⟨rfl,K3.b⟩
   all_goals
    first|have g1:decide (0<nn)=true:=xdt h1|have g1:True:=trivial
    first|have g2:decide ((40:Int)<1+sb.size+pb.size)=false:=zu (by omega)|have g2:True:=trivial
    have y1:¬9223372036854775807<sb.size+pb.size:=by omega
    go_wp2_with (go_at_call 111;refine(HP.o _).mono ?_;rintro e w2 ⟨rfl,fJ⟩;have K2:=Hd (HX.below fJ);obtain⟨m0,m1,mf⟩:=K2.cells;have n0:=(fJ.cell (xbl _ _ x0)).trans x0;have n1:=(fJ.cell (xbl _ _ x1)).trans x1;clear fJ)
    go_roundw;case rel=>exact⟨j+1,_,kb,vb,sb++pb,rfl,by go_num,by go_num,by omega,by omega,Hd ⟨K2.more HM.1 HM.2.1 HM.2.2.1 HM.2.2.2 (by omega) Oc G9 (by first|exact HW.2|exact λ_=>HW.2 trivial),λh=>by omega⟩⟩
    case measure=>simp[intOf]<;>omega
  ·obtain rfl:j=l.length:=by omega
   have HE:=Hd HW.1.fin;have Oi:=y5 8 nn (by omega);have y1:¬9223372036854775807<(vz nn).length+sb.size:=by omega
   go_wp2_with (go_at_call 113;refine(AJ nn (by omega)).mono ?_;rintro e w3 ⟨rfl,fO⟩;have K3:=Hd (HW.1.below fO);clear fO)
   go_ret2;obtain⟨q1,q2⟩:=UH HE.o;rw[q1,q2];exact⟨rfl,K3.b⟩
theorem q5u {v:ah} (hv:J8 w v l) (hl:l.length<=1000000) (hk:∀p∈l,p.1.length<=8/\p.2.length<=12):aD prog 73 #[v] w λe w'=>e=.returned (.tuple #[.string (bsB (mU l).1),.int .i64 ((mU l).2:Nat)])/\au w.heap.size w w':=by
 have HF:=Hd (q6h hv hl hk);generalize bsB (mU l).1=lb at*;generalize (mU l).2=ln at*;clear hv hl hk;go_enter func73,ntmps73;go_wp2_with (go_at_call 110;refine HF.mono ?_;rintro e w1 ⟨rfl,h1⟩;have H1:=Hd h1;clear h1)
 go_ret2;exact⟨rfl,H1.o⟩
def qQ:List Chg->Bs->Nat->Bs×Nat
 |[],s,n=>(s,n)
 |p::r,s,n=>if 0<n/\40<1+s.length+(yg p).length then(s,n)else qQ r (s++yg p) (n+1)
def mR (l:List Chg):Bs×Nat:=(vz (qQ l [] 0).2++(qQ l [] 0).1,(qQ l [] 0).2)
def J9 (w:aa) (v:ah) (l:List Chg):Prop:= ∃sa cp,v=.slice sa l.length cp/\∀i p,l[i]?=some p->∃g o,sa=some ⟨g,o,none⟩/\w.cell? ⟨g,o+i*3,none⟩=some (sv p.k)/\w.cell? ⟨g,o+i*3+1,none⟩=some (sv p.v)/\w.cell? ⟨g,o+i*3+2,none⟩=some (.bool p.g)
structure FdW (w:aa) (l:List Chg) (last yh:ByteArray) (lg:Bool) (sb:ByteArray) (nn j:Nat) (wr:aa):Prop where
 eq:qQ l [] 0=qQ (l.drop j) sb.data.toList nn
 sz:sb.size<=39
 c:wr.heap[w.heap.size]?=some (.cells #[.string last,.string yh,.bool lg] 87 (0,0))
 b:au w.heap.size w wr
theorem FdW.below {w wr:aa} {l:List Chg} (h:FdW w l last yh lg sb nn j wr) (hb:au wr.heap.size wr w2):FdW w l last yh lg sb nn j w2:={h with c:=(hb.block _ (yx h.c).1).trans h.c,b:=h.b.trans (hb.mono h.b.size)}
theorem FdW.cells {last yh sb:ByteArray} {lg:Bool} {w wr:aa} {l:List Chg} {nn j:Nat} (h:FdW w l last yh lg sb nn j wr):wr.cell? ⟨w.heap.size,0,none⟩=some (.string last)/\wr.cell? ⟨w.heap.size,1,none⟩=some (.string yh)/\wr.cell? ⟨w.heap.size,2,none⟩=some (.bool lg)/\(∀i,wr.frozen? ⟨w.heap.size,i,none⟩=false):=⟨by simp[ag,h.c],by simp[ag,h.c],by simp[ag,h.c],λi=>by simp[aF,h.c]⟩
theorem FdW.more {w:aa} {l:List Chg} {p:Chg} {kb:ByteArray} (h:FdW w l last yh lg sb nn j w2) (hp:l[j]?=some p) (iG:kb.data.toList=p.k) (nC:vb.data.toList=p.v) (mg:bsB (yg p)=pb) (fF:¬(0<nn/\40<1+sb.size+pb.size)) (eU:pb.size<=25) (nM:kb.size<=8) (Bo:nn=0->sb.size=0):
  FdW w l kb vb p.g (sb++pb) (nn+1) (j+1) (((w2.setCell ⟨w.heap.size,0,none⟩ (.string kb)).setCell ⟨w.heap.size,1,none⟩ (.string vb)).setCell ⟨w.heap.size,2,none⟩ (.bool p.g)):=by
 have qZ:pb.size=(yg p).length:=by rw[<-mg,tO]
 have fE:(sb++pb).size=sb.size+pb.size:=by simp
 refine{eq:=?_,sz:=by rw[fE];omega,c:=?_,b:=((h.b.setCell (ji _) _).setCell (ji _) _).setCell (ji _) _}
 ·obtain⟨hj,rfl⟩:=am.1 hp;rw[h.eq,aG hj,qQ,if_neg (by rw[<-qZ];simpa using fF)];have e2:(sb++pb).data.toList=sb.data.toList++yg l[j]:=by
   rw[<-mg];simp[bsB]
  rw[e2]
 ·have c1:=xhs w2 w.heap.size 0 _ _ (.string kb) h.c;have c2:=xhs _ w.heap.size 1 _ _ (.string vb) c1;have c3:=xhs _ w.heap.size 2 _ _ (.bool p.g) c2;exact c3
theorem FdW.stop {w wr:aa} {l:List Chg} {p:Chg} (h:FdW w l last yh lg sb nn j wr) (hp:l[j]?=some p) (mg:bsB (yg p)=pb) (fF:0<nn/\40<1+sb.size+pb.size):qQ l [] 0=(sb.data.toList,nn):=by
 have qZ:pb.size=(yg p).length:=by rw[<-mg,tO]
 obtain⟨hj,rfl⟩:=am.1 hp;rw[h.eq,aG hj,qQ,if_pos (by rw[<-qZ];simpa using fF)]
theorem FdW.fin {w wr:aa} {l:List Chg} (h:FdW w l last yh lg sb nn l.length wr):qQ l [] 0=(sb.data.toList,nn):=by
 rw[h.eq,List.drop_length,qQ]
theorem UI {l:List Chg} (h:qQ l [] 0=(sb.data.toList,nn)):bsB (mR l).1=(⟨(vz nn).toArray⟩:ByteArray)++sb/\(mR l).2=nn:=by
 unfold mR;rw[h];exact⟨by rw[<-Cv,U8 (b:=sb) rfl];rfl,rfl⟩
theorem q6g {v:ah} {l:List Chg} (hv:J9 w v l) (hl:l.length<=1000000) (hk:∀p∈l,p.k.length<=8/\p.v.length<=12):aD prog 115 #[v,.func (.func 116) #[] #[]] w λe w'=>e=.returned (.tuple #[.string (bsB (mR l).1),.int .i64 ((mR l).2:Nat)])/\au w.heap.size w w':=by
 obtain⟨sa,cp,rfl,hc⟩:=hv;have HC:=Hd hc;have HK:=Hd hk;clear hc hk;go_enter func115,ntmps115;go_wp2;go_loopw [7,8,14] (λs n i wr=>∃(j nn:Nat) (last yh:ByteArray) (lg:Bool) (sb:ByteArray),s=.string sb/\n=.int .i64 nn/\i=.int .i64 j/\j<=l.length/\nn<=j/\Hid (FdW w l last yh lg sb nn j wr/\(nn=0->sb.size=0))) (λ_ _ i _=>l.length-(intOf i).toNat);case atStart=>exact⟨0,0,⟨#[]⟩,⟨#[]⟩,false,⟨#[]⟩,rfl,rfl,rfl,xzl _,ji _,Hd ⟨{eq:=by simp,sz:=by decide,c:=az _ _,b:=(zk _ _).alloc (ji _) _},λ_=>rfl⟩⟩
 case round=>
  obtain⟨j,nn,last,yh,lg,sb,rfl,rfl,rfl,hj,xG,HW⟩:=hrel;have fE:=HW.1.sz;by_cases jO:j<l.length
  ·obtain⟨p,hp⟩:∃p,l[j]?=some p:=⟨_,ay jO⟩
   obtain⟨g,o,rfl,dd⟩:=HC.o j p hp;obtain⟨Dk,Cf⟩:=HK.o p (aH hp);obtain⟨kb,iG⟩:=qp p.k;obtain⟨vb,nC⟩:=qp p.v;rw[jf iG,jf nC]at dd;have G9:kb.size<=8:=by rw[vP iG];exact Dk
   have NY:vb.size<=12:=by rw[vP nC];exact Cf
   have dw:=λ(a:Addr) (u:ah) (h:w.cell? a=some u)=>(HW.1.b.cell (xbl w a h)).trans h;obtain⟨pb,mg⟩:∃pb,bsB (yg p)=pb:=⟨_,rfl⟩
   have Oc:pb.size<=25:=by rw[<-mg,tO];exact Uf _ Dk Cf
   have HP:Hid (∀W,aD prog 116 #[.agg #[.string last,.string yh,.bool lg],.agg #[.string kb,.string vb,.bool p.g]] W λe w'=>e=.returned (.string pb)/\au W.heap.size W w'):=Hd λW=>by
    have h:=Y4 (w:=W) last yh lg kb vb p.g G9 NY;rw[iG,nC]at h;rw[<-mg];exact h
   have HM:=Hd (ac hp (ac iG (ac nC mg)));have d0:=dw _ _ dd.1;have d1:=dw _ _ dd.2.1;have d2:=dw _ _ dd.2.2;clear dw dd hp iG nC mg Dk Cf;have HX:=Hd (HW.1.below ((zk wr.heap.size wr).alloc (ji _) (.cells #[.string kb,.string vb,.bool p.g] 87)));obtain⟨l0,l1,l2,lf⟩:=HX.cells;have x0:(wr.alloc (.cells #[.string kb,.string vb,.bool p.g] 87)).cell? ⟨wr.heap.size,0,none⟩=some (.string kb):=by go_simp
   have x1:(wr.alloc (.cells #[.string kb,.string vb,.bool p.g] 87)).cell? ⟨wr.heap.size,1,none⟩=some (.string vb):=by go_simp
   have x2:(wr.alloc (.cells #[.string kb,.string vb,.bool p.g] 87)).cell? ⟨wr.heap.size,2,none⟩=some (.bool p.g):=by go_simp
   have yF:nn=0\/(0<nn/\40<1+sb.size+pb.size)\/(0<nn/\¬40<1+sb.size+pb.size):=by omega
   rcases yF with rfl|⟨h1,h2⟩|⟨h1,h2⟩;rotate_left
   ·have g1:decide (0<nn)=true:=xdt h1;have g2:decide ((40:Int)<1+sb.size+pb.size)=true:=xdt (by omega);have HE:=Hd (HW.1.stop HM.1 HM.2.2.2 ⟨h1,h2⟩);have Oi:=y5 8 nn (by omega);have y1:¬9223372036854775807<(vz nn).length+sb.size:=by omega
    go_wp2_with (first
     |(go_at_call 116;refine(HP.o _).mono ?_;rintro e w2 ⟨rfl,fJ⟩;have K2:=Hd (HX.below fJ);obtain⟨m0,m1,m2,mf⟩:=K2.cells;clear fJ)
     |(go_at_call 113;refine(AJ nn (by omega)).mono ?_;rintro e w3 ⟨rfl,fO⟩;have K3:=Hd (K2.below fO);clear fO))
    go_ret2;obtain⟨q1,q2⟩:=UI HE.o;rw[q1,q2];exact⟨rfl,K3.b⟩
   all_goals
    first|have g1:decide (0<nn)=true:=xdt h1|have g1:True:=trivial
    first|have g2:decide ((40:Int)<1+sb.size+pb.size)=false:=zu (by omega)|have g2:True:=trivial
    have y1:¬9223372036854775807<sb.size+pb.size:=by omega
    go_wp2_with (go_at_call 116;refine(HP.o _).mono ?_;rintro e w2 ⟨rfl,fJ⟩;have K2:=Hd (HX.below fJ);obtain⟨m0,m1,m2,mf⟩:=K2.cells;have n0:=(fJ.cell (xbl _ _ x0)).trans x0;have n1:=(fJ.cell (xbl _ _ x1)).trans x1;have n2:=(fJ.cell (xbl _ _ x2)).trans x2;clear fJ)
    go_roundw;case rel=>exact⟨j+1,_,kb,vb,p.g,sb++pb,rfl,by go_num,by go_num,by omega,by omega,Hd ⟨K2.more HM.1 HM.2.1 HM.2.2.1 HM.2.2.2 (by omega) Oc G9 (by first|exact HW.2|exact λ_=>HW.2 trivial),λh=>by omega⟩⟩
    case measure=>simp[intOf]<;>omega
  ·obtain rfl:j=l.length:=by omega
   have HE:=Hd HW.1.fin;have Oi:=y5 8 nn (by omega);have y1:¬9223372036854775807<(vz nn).length+sb.size:=by omega
   go_wp2_with (go_at_call 113;refine(AJ nn (by omega)).mono ?_;rintro e w3 ⟨rfl,fO⟩;have K3:=Hd (HW.1.below fO);clear fO)
   go_ret2;obtain⟨q1,q2⟩:=UI HE.o;rw[q1,q2];exact⟨rfl,K3.b⟩
theorem q55 {v:ah} {l:List Chg} (hv:J9 w v l) (hl:l.length<=1000000) (hk:∀p∈l,p.k.length<=8/\p.v.length<=12):aD prog 74 #[v] w λe w'=>e=.returned (.tuple #[.string (bsB (mR l).1),.int .i64 ((mR l).2:Nat)])/\au w.heap.size w w':=by
 have HF:=Hd (q6g hv hl hk);generalize bsB (mR l).1=lb at*;generalize (mR l).2=ln at*;clear hv hl hk;go_enter func74,ntmps74;go_wp2_with (go_at_call 115;refine HF.mono ?_;rintro e w1 ⟨rfl,h1⟩;have H1:=Hd h1;clear h1)
 go_ret2;exact⟨rfl,H1.o⟩
end
theorem Me (l:Bs):match kg l with
  |some p=>lD l false=(p.1,p.2,false)
  |none=>(lD l false).2=([],true):=by
 have h:=Cz 4 true 0 1 l;unfold kg xu lD;cases hn:nX 4 true 0 1 l with
 |none=>
  rw[hn]at h;simp only at h;rw[aY];show(takeC _ (iA 4 true 0 1 l false).2.1 (iA 4 true 0 1 l false).2.2).2=_;rw[h];unfold takeC;split<;>simp
 |some p=>
  rw[hn]at h;simp only at h;rw[h,ae];unfold takeC;by_cases e:p.2.length<p.1
  ·simp only[if_pos e]
  ·simp only[if_neg e]
theorem CK (k:Nat) (first:Bool) (a m:Nat):(iA k first a m [] true).2=([],true):=by
 cases k<;>cases first<;>rfl
theorem Gd:(lD [] true).2=([],true):=by
 unfold lD takeC;rw[CK];split<;>simp
def frC (l:Bs):Fr×Bs×Bool:=
 let c1:=iL l false
 let c2:=iL c1.2.1 c1.2.2
 let c3:=iA 4 true 0 1 c2.2.1 c2.2.2
 let c4:=iA 4 true 0 1 c3.2.1 c3.2.2
 let c5:=lD c4.2.1 c4.2.2
 (⟨c1.1.toNat,c2.1.toNat,c3.1,c4.1,c5.1⟩,c5.2)
theorem jcv (l:Bs):match parse l with
  |some f=>frC l=(f,[],false)
  |none=>(!(frC l).2.2&&(frC l).2.1.isEmpty)=false:=by
 have bad:∀(f:Bs->Bool->Bs×Bool),True:=λ_=>trivial;match l with
 |[]=>simp only[parse,frC,iL];rw[CK,CK,Gd];rfl
 |[k]=>simp only[parse,frC,iL];rw[CK,CK,Gd];rfl
 |k::sh::r=>
  simp only[parse,frC,iL];have h1:=Cz 4 true 0 1 r;unfold xu;cases e1:nX 4 true 0 1 r with
  |none=>
   rw[e1]at h1;simp only at h1;rw[aY];simp only;rw[h1];simp only;rw[CK,Gd];rfl
  |some p=>
   rw[e1]at h1;simp only at h1;rw[ae,h1];simp only;have h2:=Cz 4 true 0 1 p.2;cases e2:nX 4 true 0 1 p.2 with
   |none=>
    rw[e2]at h2;simp only at h2;rw[aY];simp only;rw[h2,Gd];rfl
   |some q=>
    rw[e2]at h2;simp only at h2;rw[ae,h2];simp only;have h3:=Me q.2;cases e3:kg q.2 with
    |none=>
     rw[e3]at h3;simp only at h3;rw[aY];simp only;rw[h3];rfl
    |some t=>
     rw[e3]at h3;simp only at h3;rw[ae,h3];simp only;by_cases e:t.2=[]
     ·rw[if_pos e,e]
     ·rw[if_neg e];simpa using e
def frV (f:Fr):ah:=.agg #[.int .u8 f.kind,.int .i64 f.qg,.int .i64 f.id,.int .i64 f.n,sv f.load]
def zw (v:Fr->ah) (w:aa) (l:Bs) (e:bK) (w':aa):Prop:=(match jM l with
  |some f=>e=.returned (.tuple #[v f,.bool true])
  |none=>∃f,e=.returned (.tuple #[v f,.bool false]))/\But (λ_=>False) w w'
theorem Q9 (x i:Nat) (hi:i<4):(le4 x)[i]?=some (b8 (x/2^(8*i))):=by
 match i,hi with
 |0,_|1,_|2,_|3,_=>simp[le4]
structure RdW (w wr:aa):Prop where
 r:wr.heap[w.heap.size]?=some (.cells #[.int .u8 0,.int .i64 0,.int .i64 0,.int .i64 0,.string ⟨#[]⟩] 133 (0,0))
 b:But (λ_=>False) w wr
section
variable {w wr w2:aa} {cb:Nat} {l:Bs} {bad:Bool}
theorem RdW.of (w:aa):RdW w (w.alloc (.cells #[.int .u8 0,.int .i64 0,.int .i64 0,.int .i64 0,.string ⟨#[]⟩] 133)):=⟨az _ _,But.of_below ((zk _ _).alloc (ji _) _)⟩
theorem RdW.lt (h:RdW w wr):w.heap.size<wr.heap.size:=(yx h.r).1
theorem RdW.below (h:RdW w wr) (hb:au wr.heap.size wr w2):RdW w w2:=⟨(hb.block _ h.lt).trans h.r,h.b.trans (But.of_below hb)⟩
theorem But.top {w0:aa} (h:But B w0 w) {C:Nat->Prop} (k:But C w w2) (hc:∀b,C b->B b\/w0.heap.size<=b):But B w0 w2:=⟨xlt h.size k.size,λi hi hb=>(k.keep i (xll hi h.size) λx=>(hc i x).elim hb λy=>by omega).trans (h.keep i hi hb),k.os.trans h.os,k.output.trans h.output⟩
theorem RdW.but (h:RdW w wr) (hc:w.heap.size<cb) (hb:But (· =cb) wr w2):RdW w w2:=⟨(hb.keep _ h.lt (by omega)).trans h.r,h.b.top hb λb e=>.inr (by omega)⟩
theorem RdW.cells (h:RdW w wr):wr.cell? ⟨w.heap.size,0,none⟩=some (.int .u8 0)/\wr.cell? ⟨w.heap.size,1,none⟩=some (.int .i64 0)/\wr.cell? ⟨w.heap.size,2,none⟩=some (.int .i64 0)/\wr.cell? ⟨w.heap.size,3,none⟩=some (.int .i64 0)/\wr.cell? ⟨w.heap.size,4,none⟩=some (.string ⟨#[]⟩)/\∀j,wr.frozen? ⟨w.heap.size,j,none⟩=false:=
 ⟨by simp[ag,h.r],by simp[ag,h.r],by simp[ag,h.r],by simp[ag,h.r],by simp[ag,h.r],λj=>by simp[aF,h.r]⟩
theorem RdW.drewN (h:RdW w wr) (n:Nat):RdW w (wr.drewN n):=⟨h.r,h.b.size,h.b.keep,h.b.os,h.b.output⟩
theorem But.fresh (h:But (· =w.heap.size) w wr):But (λ_=>False) w wr:=⟨h.size,λb hb _=>h.keep b hb (by omega),h.os,h.output⟩
theorem RdW.b' (h:RdW w wr):But (· =w.heap.size) w wr:=h.b.mono λ_ e=>e.elim
theorem je2 (h:But (· =w.heap.size) w wr) (a b c d e:ah) (o:Obj):But (· =w.heap.size) w ((((((wr.setCell ⟨w.heap.size,0,none⟩ a).setCell ⟨w.heap.size,1,none⟩ b).setCell ⟨w.heap.size,2,none⟩ c).setCell ⟨w.heap.size,3,none⟩ d).setCell ⟨w.heap.size,4,none⟩ e).alloc o):=(But.setCell (But.setCell (But.setCell (But.setCell (But.setCell h rfl _ _) rfl _ _) rfl _ _) rfl _ _) rfl _ _).trans (But.of_below ((zk _ _).alloc (ji _) _))
theorem zw.no {v:Fr->ah} {f:Fr} (h:jM l=none) (hb:But (λ_=>False) w wr):zw v w l (.returned (.tuple #[v f,.bool false])) wr:=by
 unfold zw;rw[h];exact⟨⟨f,rfl⟩,hb⟩
theorem UB (hn:s.size=n+4) (hj:j<4):s.data.toList[n+j]?=some (s[n+j]'(by omega)):=by
 have h:n+j<s.size:=by omega
 rw[ay (by simpa using h)];simp[ByteArray.getElem_eq_getElem_data]
theorem QW:(b8 (C/2^(8*j))).toNat=C/2^(8*j)%256:=by simp[b8]
theorem q9k (hn:s.size=n+4) (hl:(s.extract 0 n).data.toList=s.data.toList.take n) (hC:chk (s.extract 0 n).data.toList=C) (hj:j<4) (h:¬((s[n+j]'(by omega)).toNat:Int)=(C:Int)/2^(8*j)%256):jM s.data.toList=none:=by
 have hz:s.data.toList.length=n+4:=by simpa using hn
 unfold jM;rw[if_neg (by omega),hz,show n+4-4=n by omega,<-hl,hC];rw[if_neg];intro e;have e1:(s.data.toList.drop n)[j]?=(le4 C)[j]?:=by rw[e]
 rw[bD,UB hn hj,Q9 _ _ hj]at e1;have e2:=congrArg UInt8.toNat (xoi e1);rw[QW]at e2;apply h;rw[e2];simp
theorem q9j (hn:s.size=n+4) (hp:∀i,i<j->s.data.toList[n+i]?=(le4 C)[i]?) {hj:n+j<s.size} (h:((s[n+j]'hj).toNat:Int)=(C:Int)/2^(8*j)%256):∀i,i<j+1->s.data.toList[n+i]?=(le4 C)[i]?:=λi hi=>by
 rcases ce i j with h1|h1
 ·exact hp i h1
 ·obtain rfl:i=j:=by omega
  rw[UB hn (by omega),Q9 _ _ (by omega)];congr 1;apply UInt8.toNat_inj.1;rw[QW];have e:((C:Int)/2^(8*i)%256)=((C/2^(8*i)%256:Nat):Int):=by simp
  omega
theorem je4 (hn:s.size=n+4) (hl:(s.extract 0 n).data.toList=s.data.toList.take n) (hC:chk (s.extract 0 n).data.toList=C) (hp:∀i,i<4->s.data.toList[n+i]?=(le4 C)[i]?):jM s.data.toList=parse (s.extract 0 n).data.toList:=by
 have hz:s.data.toList.length=n+4:=by simpa using hn
 unfold jM;rw[if_neg (by omega),hz,show n+4-4=n by omega,<-hl,hC,if_pos];apply List.ext_getElem?;intro i;rw[bD];rcases ce i 4 with h|h
 ·exact hp i h
 ·rw[bq (by omega),bq (by simpa[le4]using h)]
theorem je3 {L0:Bs} {v:Fr} {r:Bs×Bool} (h1:jM l=parse L0) (h2:frC L0=(v,r)) (hb:But (λ_=>False) w wr):zw frV w l (.returned (.tuple #[frV v,.bool (!r.2&&r.1.isEmpty)])) wr:=by
 have h:=jcv L0;unfold zw;rw[h1];cases hp:parse L0 with
 |none=>
  rw[hp,h2]at h;exact⟨⟨v,by rw[h]⟩,hb⟩
 |some f=>
  rw[hp,h2]at h;simp only[Prod.mk.injEq]at h;obtain⟨rfl,rfl⟩:=h;exact⟨rfl,hb⟩
theorem vL (s:ByteArray) (hs:s.size<=1073741824):aD prog 101 #[.string s] w (zw frV w s.data.toList):=by
 have HW:=Hd (RdW.of w);by_cases h4:s.size<4
 ·have HR:Hid (jM s.data.toList=none):=Hd (by unfold jM;rw[if_pos (by simpa using h4)]);unfold zw;rw[HR.o];have g1:decide ((s.size:Int)-4<0)=true:=xdt (by omega);have hz:(s.size:Int)<4:=by omega
  go_enter func101,ntmps101;go_wp2;obtain⟨r0,r1,r2,r3,r4,fr⟩:=HW.cells;have D7:=HW.lt;refine bH (v:=.tuple #[frV ⟨0,0,0,0,[]⟩,.bool false]) (by simp[results,Tryz.results101,go_sem,frV,sv]) rfl ⟨⟨_,rfl⟩,?_⟩;exact HW.b
 ·obtain⟨n,hn⟩:∃n,s.size=n+4:=⟨s.size-4,by omega⟩
  have g1:decide ((s.size:Int)-4<0)=false:=zu (by omega);have hz:(s.size:Int)-4=n:=by omega
  have qV:n<=s.size:=by omega
  have HC:=Hd (I7 (s.extract 0 n).data.toList);have HL:Hid ((s.extract 0 n).data.toList=s.data.toList.take n/\s.data.toList.length=n+4):=Hd ⟨by rw[ext_list];rfl,by simpa using hn⟩;have HN:=Hd hn;clear hn;go_enter func101,ntmps101;go_wp2_with (go_at_call 117;refine(Rn (s.extract 0 n) (by simp;omega)).mono ?_;rintro e w2 ⟨rfl,rfl⟩;obtain⟨C,hC⟩:∃C,chk (s.extract 0 n).data.toList=C:=⟨_,rfl⟩;rw[hC]at HC⊢;replace hC:=Hd hC)
  go_loopw [19] (λi wr=>∃j:Nat,j<=4/\i=.int .i64 j/\Hid (RdW w wr/\∀i,i<j->s.data.toList[n+i]?=(le4 C)[i]?)) (λi _=>4-(intOf i).toNat);case atStart=>exact⟨0,by omega,rfl,Hd ⟨HW.o,λi hi=>by omega⟩⟩
  case round=>
   obtain⟨j,hj,rfl,HJ⟩:=hrel;by_cases zR:j<4
   ·have KA:n+j<s.size:=by have:=HN.o;omega
    have qG:((n:Int)+j<s.size):=by omega
    have hi3:IntKind.i64.wrap ((n:Int)+j)=n+j:=by rw[IntKind.wrap_i64];omega
    have xI:(0:Int)<=n+j:=by omega
    obtain⟨r0,r1,r2,r3,r4,fr⟩:=HJ.1.cells;have D7:=HJ.1.lt;go_wp2;go_quiet (fail);go_wp2
    ·refine bH (v:=.tuple #[frV ⟨0,0,0,0,[]⟩,.bool false]) (by simp[results,Tryz.results101,go_sem,frV,sv,D7,r0,r1,r2,r3,r4,fr]) rfl ?_;rename_i eB;refine zw.no (q9k HN.o HL.1 hC.out zR (by simpa using eB)) ?_;exact(But.setCell (But.setCell (But.setCell (But.setCell (But.setCell (HJ.1.drewN nq).b' rfl _ _) rfl _ _) rfl _ _) rfl _ _) rfl _ _).fresh
    ·rename_i heq;go_roundw;case rel=>exact⟨j+1,by omega,by go_num,Hd ⟨HJ.1.drewN nq,q9j HN.o HJ.2 (by simpa using heq)⟩⟩
     case measure=>simp[intOf];omega
   ·obtain rfl:j=4:=by omega
    obtain⟨L0,OH⟩:∃L,(s.extract 0 n).data.toList=L:=⟨_,rfl⟩
    have K0:Hid (lI (wr.alloc (.cells #[.string (s.extract 0 n),.bool false] 212)) wr.heap.size L0 false/\RdW w (wr.alloc (.cells #[.string (s.extract 0 n),.bool false] 212))):=Hd ⟨by unfold lI;rw[az,jf OH],HJ.1.below ((zk _ _).alloc (ji _) _)⟩;have dY:=HJ.1.lt;have E0:=Hd OH;obtain⟨c1,e1⟩:∃c,iL L0 false=c:=⟨_,rfl⟩
    obtain⟨c2,e2⟩:∃c,iL c1.2.1 c1.2.2=c:=⟨_,rfl⟩
    obtain⟨c3,e3⟩:∃c,iA 4 true 0 1 c2.2.1 c2.2.2=c:=⟨_,rfl⟩
    obtain⟨c4,e4⟩:∃c,iA 4 true 0 1 c3.2.1 c3.2.2=c:=⟨_,rfl⟩
    obtain⟨c5,e5⟩:∃c,lD c4.2.1 c4.2.2=c:=⟨_,rfl⟩
    obtain⟨ld,fG⟩:=qp c5.1;obtain⟨sr,uQ⟩:=qp c5.2.1;have E1:=Hd e1;have E2:=Hd e2;have E3:=Hd e3;have E4:=Hd e4;have E5:=Hd e5;have E6:=Hd fG;have E7:=Hd uQ;clear e1 e2 e3 e4 e5 OH fG uQ;go_wp2_with (first
     |(go_at_call 127;refine(FT K0.1).mono ?_;rw[E1.o];rintro e w2 ⟨rfl,h1,h2⟩;have K1:=Hd (ac h1 (K0.2.but dY h2));clear h1 h2)
     |(go_at_call 127;refine(FT K1.1).mono ?_;rw[E2.o];rintro e w3 ⟨rfl,h1,h2⟩;have K2:=Hd (ac h1 (K1.2.but dY h2));clear h1 h2)
     |(go_at_call 128;refine(Cu K2.1).mono ?_;rw[E3.o];rintro e w4 ⟨rfl,h1,h2⟩;have K3:=Hd (ac h1 (K2.2.but dY h2));clear h1 h2)
     |(go_at_call 128;refine(Cu K3.1).mono ?_;rw[E4.o];rintro e w5 ⟨rfl,h1,h2⟩;have K4:=Hd (ac h1 (K3.2.but dY h2));clear h1 h2)
     |(go_at_call 129;refine(yO K4.1).mono ?_;rw[E5.o,jf E6.o];rintro e w6 ⟨rfl,h1,h2⟩;have K5:=Hd (ac h1 (K4.2.but dY h2));obtain⟨OY,eT,_⟩:=h1.cells E7.o;obtain⟨r0,r1,r2,r3,r4,fr⟩:=K5.2.cells;clear h1 h2))
    have qW:wrap64 (c2.1.toNat:Int)=(c2.1.toNat:Int):=by have:=uK c2.1;unfold wrap64;omega
    rw[qW];have D7:=K5.2.lt;have clt:wr.heap.size<w6.heap.size:=(yx K5.1).1;have HV:Hid (frC L0=(⟨c1.1.toNat,c2.1.toNat,c3.1,c4.1,c5.1⟩,c5.2)):=Hd (by unfold frC;simp only[E1.o,E2.o,E3.o,E4.o,E5.o]);have HF:∀(b:Bool) (w':aa),(!c5.2.2&&c5.2.1.isEmpty)=b->But (λ_=>False) w w'->zw frV w s.data.toList (.returned (.tuple #[.agg #[.int .u8 c1.1.toNat,.int .i64 c2.1.toNat,.int .i64 c3.1,.int .i64 c4.1,.string ld],.bool b])) w':=λb w' hb h=>by
     rw[<-hb];have:=je3 (je4 HN.o HL.1 hC.out HJ.2) (E0.symm▸HV.o) h;unfold frV at this;rwa [jf E6.o]at this
    have HH:=Hd HF;have HB6:=Hd K5.2.b';clear HF;have Qb:sr.toList.isEmpty=c5.2.1.isEmpty:=by rw[ai,E7.o]
    cases WB:c5.2.2<;>cases gJ:c5.2.1.isEmpty;all_goals
     rw[WB]at eT;rw[gJ]at Qb;go_region;go_wp2;refine bH (v:=.tuple #[.agg #[.int .u8 c1.1.toNat,.int .i64 c2.1.toNat,.int .i64 c3.1,.int .i64 c4.1,.string ld],.bool (!c5.2.2&&c5.2.1.isEmpty)]) (by rw[WB,gJ];simp[results,Tryz.results101,go_sem,D7,r0,r1,r2,r3,r4,fr,clt]) rfl (HH.o _ _ rfl (je2 HB6.o _ _ _ _ _ _).drew.fresh)
end
structure RSg where
 h:Nat
 k:Nat
 x:Sg
 v:ah
def jho (l:List RSg):List ah:=l.flatMap λe=>[.int .i64 e.h,.int .i64 e.k,.int .i64 e.x.id,.int .i64 e.x.next,e.v,.bool e.x.done]
structure MA where
 ml:Nat
 sb:Nat
 lv:Nat->ah
 mp:Nat->Option Nat
 pv:Nat->ah
 cv:Nat->ah
 sg:ah
 cap:Nat
 sl:List RSg
def q9l (B:MA) (s:St):Array ah:=#[.int .i64 s.hosts,.slice (some ⟨B.sb,0,none⟩) 4 B.cap,B.sg,.int .i64 s.id,.int .i64 s.ep]
def RH (pv cv:ah) (m:Mv):Array ah:=#[.int .i64 m.id,.int .i64 m.fr,.int .i64 m.to,pv,cv,sv m.sent,.int .i64 m.n,.int .i64 m.kind,.int .i64 m.parts,.bool m.sealed]
def VB (w:aa) (v:ah) (l:List Chg):Prop:=za w 60 3 v l.length (kV l)
def nU (w:aa) (v:ah) (l:List Chg):Prop:=w.ownsRow 0 60 3 v l.length (kV l)
def jgy (w:aa) (F:Nat->Prop) (B:MA) (i:Nat):Option Mv->Prop
 |none=>B.mp i=none/\(B.cv i).ownBlock=none
 |some m=>∃g,B.mp i=some g/\F g/\w.heap[g]?=some (.cells (RH (B.pv i) (B.cv i) m) 110 (0,0))/\uz w (B.pv i) m.ps/\VB w (B.cv i) m.cs/\(∀b,(B.pv i).ownBlock=some b->F b)/\∀b,(B.cv i).ownBlock=some b->F b
structure jcc (w:aa) (F:Nat->Prop) (B:MA) (sg:Nat->Nat->Option Sg):Prop where
 r:w.ownsRow 0 191 6 B.sg B.sl.length (jho B.sl)
 rF:∀b,B.sg.ownBlock=some b->F b
 e:∀e∈B.sl,e.h<4/\e.k<4/\sg e.h e.k=some e.x/\jU w 0 e.v e.x.kv/\∀b,e.v.ownBlock=some b->F b
 nd:B.sl.Pairwise λa b=>¬(a.h=b.h/\a.k=b.k)
 all:∀h k,h<4->k<4->(sg h k).isSome=true->∃e∈B.sl,e.h=h/\e.k=k
structure MAt (w:aa) (F:Nat->Prop) (B:MA) (s:St):Prop where
 ml:F B.ml/\w.heap[B.ml]?=some (.cells (q9l B s) 101 (0,0))
 sb:F B.sb/\∃cur,w.heap[B.sb]?=some (.cells cur 104 (0,0))/\∀i,i<4->cur[i*3]?=some (.int .i64 (s.ow i))/\cur[i*3+1]?=some (B.lv i)/\cur[i*3+2]?=some (.pointer (mpA (B.mp i)))
 r:∀i,i<4->jU w 0 (B.lv i) (s.kv i)/\∀b,(B.lv i).ownBlock=some b->F b
 mv:∀i,i<4->jgy w F B i (s.mv i)
 mpi:∀i j g,i<4->j<4->B.mp i=some g->B.mp j=some g->i=j
 cvi:∀i j g,i<4->j<4->(B.cv i).ownBlock=some g->(B.cv j).ownBlock=some g->i=j
 stg:jcc w F B s.sg
section
variable {w w':aa} {F F':Nat->Prop} {B:MA} {s:St} {n:Nat}
structure RX (x:Nat) (pv cv:ah) (m:Mv) (w:aa):Prop where
 b:w.heap[x]?=some (.cells (RH pv cv m) 110 (0,0))
 r:VB w cv m.cs
end
def VG (h:Nat):Nat->List ah
 |0=>[]
 |j+1=>VG h j++[.int .i64 ((j:Int).tmod (h:Int)),.slice none 0 0,.pointer none]
theorem cells3 (w:aa) (a b c:ah) (ty:bo):∀(j:Nat) (u:ah),[a,b,c][j]?=some u->(w.alloc (.cells #[a,b,c] ty)).cell? ((⟨w.heap.size,0,none⟩:Addr).add j)=some u:=λj u hj=>by
 rw[bh,aR];match j,hj with
 |0,hj=>simp at hj;subst hj;go_simp
 |1,hj=>simp at hj;subst hj;go_simp
 |2,hj=>simp at hj;subst hj;go_simp
structure RNew (W w:aa) (h ml j:Nat) (S:ah):Prop where
 b:w.heap[ml]?=some (.cells #[.int .i64 h,S,.slice none 0 0,.int .i64 0,.int .i64 0] 101 (0,0))
 row:w.ownsRow (ml+1) 104 3 S j (VG h j)
 lo:W.heap.size<=ml
 below:au W.heap.size W w
section
variable {W w w1 w3:aa} {h ml j:Nat} {S:ah}
def kP (h:Nat):St:=⟨h,λi=>i%h,λ_=>[],λ_=>none,λ_ _=>none,0,0⟩
theorem q4t (i h:Nat):((i:Int).tmod (h:Int))=((i%h:Nat):Int):=by
 rw[Int.tmod_eq_emod_of_nonneg (Int.natCast_nonneg i)];rfl
end
theorem Mc:∃i,prog.info? 87=some i/\i.zero=some (.agg #[.string ⟨#[]⟩,.string ⟨#[]⟩,.bool false])/\i.size=3/\i.bytes=40:=by
 have h:(prog.info? 87).map (λi=>(i.zero,i.size,i.bytes))=some (some (.agg #[.string ⟨#[]⟩,.string ⟨#[]⟩,.bool false]),3,40):=by kernel_rfl
 obtain⟨i,h1,h2⟩:=aS.1 h;injection h2 with h2 h3;injection h3 with h3 h4;exact⟨i,h1,h2,h3,h4⟩
def II (k v:ByteArray) (g:Bool):Chg:=⟨k.data.toList,v.data.toList,g⟩
def csL (L:KV) (cs:List Chg) (k v:ByteArray) (g:Bool):List Chg:=if oP L k.data.toList v.data.toList g=0 then cs++[II k v g]else cs
structure MX (x n:Nat) (pv cv:ah) (ld:ByteArray) (m:Mv) (w:aa):Prop where
 b:w.heap[x]?=some (.cells (qh n pv cv ld m) 135 (0,0))
 r:qA w cv m.cs
section
variable {w w':aa} {cl db mb x n:Nat} {L:KV} {pv cv:ah} {ld:ByteArray} {m:Mv}
theorem zx {m:Nat} {L:KV} {b:Nat} {cur:Array ah} {ty:bo} (hm:jv w m L) (hb:w.heap[b]?=some (.cells cur ty (0,0))):b≠m:=λe=>by
 obtain⟨es,ck,h,_⟩:=hm;rw[e,h]at hb;cases hb
theorem MX.lt (h:MX x n pv cv ld m w):x<w.heap.size:=(yx h.b).1
theorem MX.below (h:MX x n pv cv ld m w) (hb:au w.heap.size w w'):MX x n pv cv ld m w':=⟨(hb.block _ h.lt).trans h.b,h.r.block λg hg=>hb.block g (za.lt h.r hg)⟩
theorem MX.but (h:MX x n pv cv ld m w) (hm:jv w mb L) (hb:But (· =mb) w w'):MX x n pv cv ld m w':=⟨(hb.keep _ h.lt (zx hm h.b)).trans h.b,h.r.block λg hg=>hb.keep g (za.lt h.r hg) (by
 obtain⟨c,hc⟩:=za.ty h.r hg
 exact zx hm hc)⟩
theorem MX.cells (h:MX x n pv cv ld m w):w.cell? ⟨x,4,none⟩=some cv/\w.cell? ⟨x,12,none⟩=some (.bool m.sealed)/\w.frozen? ⟨x,4,none⟩=false:=⟨by simp[ag,h.b,qh],by simp[ag,h.b,qh],by simp[aF,h.b]⟩
def ChM (cb cl n db mb x:Nat) (pv cv:ah) (ld:ByteArray) (m:Mv) (L:KV) (k v:ByteArray) (g:Bool) (w:aa):Prop:=ChW cb cl n db mb (some ⟨x,0,none⟩) L k v g w/\MX x n pv cv ld m w
theorem Td {W:aa} {v:ByteArray} {A B:Prop} (h:A/\B/\Hid (ChM W.heap.size cl n db mb x pv cv ld m L k v g w1/\au W.heap.size W w1)) (hk:k.size<=aE):
  aD prog 42 #[.pointer (some ⟨db,0,none⟩),.string k] w1 λe w'=>(e=.returned (.tuple #[sv ((jb L k.data.toList).getD []),.bool (jb L k.data.toList).isSome]))/\ChM W.heap.size cl n db mb x pv cv ld m L k v g w'/\au W.heap.size W w':=
 (Ns h.2.2.out.1.1.m h.2.2.out.1.1.l k hk).mono λe w' ⟨h1,h2⟩=>⟨h1,⟨h.2.2.out.1.1.below h2,h.2.2.out.1.2.below h2⟩,h.2.2.out.2.trans (h2.mono h.2.2.out.2.size)⟩
def ChB (mb x:Nat) (cv:ah) (b:Nat):Prop:=b=mb\/b=x\/cv.ownBlock=some b
def I9 (w:aa) (mb x n:Nat) (pv cv:ah) (ld:ByteArray) (m:Mv) (L':KV) (fZ:List Chg) (c:Int) (e:bK) (w':aa):Prop:=
 e=.returned (.int .i64 c)/\jv w' mb L'/\(∃cv',MX x n pv cv' ld {m with cs:=fZ} w'/\∀b,cv'.ownBlock=some b->cv.ownBlock=some b\/w.heap.size<=b)/\But (ChB mb x cv) w w'
theorem I9.idle {c:Int} (h:MX x n pv cv ld m w') (hm:jv w' mb L) (hb:au w.heap.size w w'):I9 w mb x n pv cv ld m L m.cs c (.returned (.int .i64 c)) w':=⟨rfl,hm,⟨cv,h,λ_ h=>.inl h⟩,But.of_below hb⟩
theorem qnb (k v:ByteArray) (g:Bool) (n:Nat) (hn:n<4) (hk:iT k.data.toList=true) (mY:je k.data.toList=n) (iQ:k.size<=aE) (hL:L.length<=12) (hp:rZ w cl n db mb (some ⟨x,0,none⟩) L) (hx:MX x n pv cv ld m w) (hs:m.sealed=true):
  aD prog 40 #[.pointer (some ⟨cl,0,none⟩),.agg #[.string k,.string v,.bool g]] w (VD (if 12<v.data.toList.length then 3 else 5) w):=by
 have Dh:((n:Int)<4):=by omega
 have HX:=Hd hx;have HS:=Hd hs;obtain⟨cd,OA⟩:∃cd:Int,(if 12<v.data.toList.length then(3:Int)else 5)=cd:=⟨_,rfl⟩
 rw[OA];have XE:=Hd OA;clear hx hs OA;go_enter func40,ntmps40;go_wp2_with (go_at_call 41;refine(FP _ _ hk).mono ?_;rintro e w1 ⟨rfl,hb⟩;rw[mY])
 obtain⟨jW,nE⟩:=ChW.of hp hb;clear hb hp;have Ig:=Hd nE;have qI:=Hd (ac jW (HX.below nE));obtain⟨c0,c1,c2,pd,pv',pm,pl⟩:=id jW;clear nE jW pl;go_region_held3 (λw'=>w'.cell? ⟨cl,1+n*3+1,none⟩=some (.pointer (some ⟨db,0,none⟩))/\w'.cell? ⟨w.heap.size,0,none⟩=some (.string k)/\Hid (ChM w.heap.size cl n db mb x pv cv ld m L k v g w'/\au w.heap.size w w'))
  (first|exact⟨pd,c0,Hd ⟨⟨qI.1.drew,qI.2.below (aZ (zk _ _))⟩,Ig.drew⟩⟩|exact⟨(iR.1).1.d,(iR.1).1.c0,iR⟩)
  (first|(go_at_call 42;refine(Td (by assumption) iQ).mono ?_;rintro e w2 ⟨rfl,mD⟩;have iR:=Hd mD;clear mD))
 obtain⟨e0,e1,e2,ed,ev,em,el⟩:=iR.1.1;obtain⟨q1,q2,q3⟩:=iR.1.2.cells;rw[HS.o]at q2;clear el;by_cases mI:12<v.size
 ·have HE:Hid (cd=3):=Hd (XE.symm.trans (if_pos (by simpa using mI)));have g1:decide ((12:Int)<v.size)=true:=by simp;omega
  go_wp2;go_ret;exact⟨by rw[HE.o];rfl,iR.2⟩
 ·have HE:Hid (cd=5):=Hd (XE.symm.trans (if_neg (by simpa using mI)));have g1:decide ((12:Int)<v.size)=false:=by simp;omega
  go_wp2;go_ret;exact⟨by rw[HE.o];rfl,iR.2⟩
end
def iZ (n:Nat) (k v:Bs):Bool:=iT k&&je k==n&&decide (v.length<=12)
def yB (n:Nat):Nat->Bs->Bs->Option (List Chg×Bs)
 |0,_,l=>some ([],l)
 |k+1,last,l=>(xu l).bind λp=>if last.length<p.1 then none else(kg p.2).bind λt=>(kg t.2).bind λv=>
   if iZ n (last.take p.1++t.1) v.1&&aw last (last.take p.1++t.1)then(yB n k (last.take p.1++t.1) v.2).map λr=>(⟨last.take p.1++t.1,v.1,false⟩::r.1,r.2)else none
def rT (n:Nat):Nat->Bs->Option (List Chg×Bs)
 |0,l=>some ([],l)
 |_+1,[]=>none
 |k+1,b::l=>if b.toNat<1||2<b.toNat then none else(kg l).bind λt=>(if b.toNat==1 then kg t.2 else some ([],t.2)).bind λv=>
   if iZ n t.1 v.1 then(rT n k v.2).map λr=>(⟨t.1,v.1,b.toNat==2⟩::r.1,r.2)else none
def whole (out:List Chg) (r:List Chg×Bs):Option (List Chg):=if r.2.isEmpty&&!(out++r.1).isEmpty then some (out++r.1)else none
def unblock (n:Nat) (l:Bs):Option (List Chg):=(xu l).bind λc=>(yB n c.1 [] c.2).bind (whole [])
def vM (n:Nat) (l:Bs):Option (List Chg):=(xu l).bind λc=>(rT n c.1 c.2).bind (whole [])
theorem MQ (out:List Chg) (c:Chg) (o:Option (List Chg×Bs)):(o.map λr=>(c::r.1,r.2)).bind (whole out)=o.bind (whole (out++[c])):=by
 cases o with
 |none=>rfl
 |some r=>simp[whole]
theorem Rq (l:Bs) (k:Nat):aw l (l.take k)=false:=by
 induction l generalizing k with
 |nil=>cases k<;>rfl
 |cons a l ih=>
  cases k with
  |zero=>rfl
  |succ k=>simp[aw,ih]
theorem Jq {l:Bs} (h:kg l=none):lD l false=([],[],true):=by
 have h1:=Me l;rw[h]at h1;simp only at h1;refine Prod.ext ?_ h1;unfold lD takeC at h1⊢;split
 ·rfl
 ·rename_i dY;rw[if_neg dY]at h1;simp only[Prod.mk.injEq]at h1;show List.take _ _=[];have h2:=Cz 4 true 0 1 l;cases hn:nX 4 true 0 1 l with
  |none=>rw[hn]at h2;simp only at h2;rw[h2];simp
  |some p=>rw[hn]at h2;simp only at h2;rw[h2]at h1;simp at h1
theorem ZQ:lD [] true=([],[],true):=by
 refine Prod.ext ?_ Gd;unfold lD takeC;rw[CK];split<;>simp
theorem A8 {l:Bs} (h:kg l=some p):lD l false=(p.1,p.2,false):=by
 have h1:=Me l;rw[h]at h1;exact h1
theorem Q5 {l:Bs} (h:xu l=none):(iA 4 true 0 1 l false).2=([],true):=by
 have h1:=Cz 4 true 0 1 l;unfold xu at h;rw[h]at h1;exact h1
theorem Js {l:Bs} {p:Nat×Bs} (h:xu l=some p):iA 4 true 0 1 l false=(p.1,p.2,false):=by
 have h1:=Cz 4 true 0 1 l;unfold xu at h;rw[h]at h1;exact h1
theorem q1e (n:Nat) (v:Bs):iZ n [] v=false:=rfl
def Av (n k:Nat) (last l:Bs) (bad:Bool) (out:List Chg):Option (List Chg):=if bad then none else(yB n k last l).bind (whole out)
theorem CP (l:Bs) (bad:Bool):(lD l bad).1.length<=l.length/\(lD l bad).2.1.length<=l.length:=by
 have h:=ED 4 true 0 1 l bad;unfold lD takeC;split
 ·exact⟨xzl _,xzl _⟩
 ·simp only[ax,List.length_drop];omega
theorem Q6 (a m:Nat) (b:UInt8) (l:Bs) (bad:Bool):(iA 4 true a m (b::l) bad).2.1.length<=l.length:=by
 rw[iA];split
 ·exact xzl _
 ·split
  ·exact ji _
  ·exact ED ..
theorem Jk {k v:Bs} (h:iZ n k v=true):k.length<=8:=by
 simp only[iZ,iT,aJ,decide_eq_true_eq]at h;exact h.1.1.2.1
theorem qtf (n k:Nat) (last l:Bs) (out:List Chg):
  let c1:=iA 4 true 0 1 l false
  let c2:=lD c1.2.1 c1.2.2
  let c3:=lD c2.2.1 c2.2.2
  let key:=last.take c1.1++c2.1
  (last.length<c1.1->Av n (k+1) last l false out=none)/\((iZ n key c3.1&&aw last key)=false->Av n (k+1) last l false out=none)/\
   (¬last.length<c1.1->(iZ n key c3.1&&aw last key)=true->Av n (k+1) last l false out=Av n k key c3.2.1 c3.2.2 (out++[⟨key,c3.1,false⟩])/\c3.2.1.length<l.length/\key.length<=8):=by
 simp only[Av,yB,bE,if_false];cases h1:xu l with
 |none=>
  rw[Q5 h1];refine⟨λ_=>rfl,λ_=>rfl,λ_ hk=>?_⟩;rw[ZQ,aO,Rq,bT]at hk;cases hk
 |some p=>
  have hp:p.2.length<l.length:=by
   cases l with
   |nil=>simp[xu,nX]at h1
   |cons b l=>
    have:=Q6 0 1 b l false;rw[Js h1]at this;exact Nat.lt_succ_of_le this
  have kG:([]:Bs).length<l.length:=aP (xzl _) hp;rw[Js h1];simp only[ae];refine⟨λh=>by rw[if_pos h];rfl,?_⟩;by_cases dY:last.length<p.1
  ·rw[if_pos dY];exact⟨λ_=>rfl,λh=>(h dY).elim⟩
  ·rw[if_neg dY];cases h2:kg p.2 with
   |none=>
    rw[Jq h2];refine⟨λ_=>rfl,λ_ hk=>?_⟩;simp only at hk;rw[aO,Rq,bT]at hk;cases hk
   |some t=>
    rw[A8 h2];simp only[ae];cases h3:kg t.2 with
    |none=>
     rw[Jq h3];exact⟨λ_=>rfl,λ_ h=>⟨by simp,kG,Jk (by simp only[aJ]at h;exact h.1)⟩⟩
    |some v=>
     rw[A8 h3];simp only[ae];refine⟨λh=>by rw[if_neg (by rw[h];decide)];rfl,λ_ h=>?_⟩;rw[if_pos h,MQ];refine⟨by simp,?_,Jk (by simp only[aJ]at h;exact h.1)⟩;have a1:=(CP p.2 false).2;have a2:=(CP t.2 false).2;rw[A8 h2]at a1;rw[A8 h3]at a2;simp only at a1 a2⊢;omega
section
variable {w:aa}
theorem En (n:Nat) (k v:ByteArray) (hk:k.size<=aE):aD prog 140 #[.int .i64 n,.string k,.string v] w λe w'=>e=.returned (.bool (iZ n k.data.toList v.data.toList))/\au w.heap.size w w':=by
 have hv:v.data.toList.length=v.size:=by simp
 unfold iZ;rw[hv];clear hv;cases iG:iT k.data.toList
 ·have HC:=Hd (Nl k w iG hk);go_enter func140,ntmps140;go_wp2_with (go_at_call 41;refine HC.mono ?_;rintro e w1 ⟨rfl,h1⟩;have H1:=Hd h1;clear h1)
  go_ret;exact⟨rfl,H1.o⟩
 ·have HC:=Hd (FP k w iG);obtain⟨m,hm⟩:∃m,je k.data.toList=m:=⟨_,rfl⟩
  rw[hm]at HC⊢;go_enter func140,ntmps140;go_wp2_with (go_at_call 41;refine HC.mono ?_;rintro e w1 ⟨rfl,h1⟩;have H1:=Hd h1;clear h1)
  ·rename_i h;go_ret;obtain rfl:m=n:=by omega
   exact⟨by simp;omega,H1.o⟩
  ·rename_i h;go_ret;exact⟨by simp[show¬m=n by omega],H1.o⟩
end
def yK (w:aa) (o:Option (List Chg)) (e:bK) (w':aa):Prop:=(match o with
  |some cs=>∃v,e=.returned (.tuple #[v,.bool true])/\Eg w' v cs/\∀b,v.ownBlock=some b->w.heap.size<=b
  |none=>∃v,e=.returned (.tuple #[v,.bool false]))/\But (λ_=>False) w w'
structure UnW (w:aa) (cb:Nat) (l:Bs) (bad:Bool) (v:ah) (out:List Chg) (wr:aa):Prop where
 c:lI wr cb l bad
 r:wr.ownsRow (w.heap.size+1) 87 3 v out.length (kV out)
 b:But (λ_=>False) w wr
section
variable {w wr w2:aa} {cb:Nat} {l l2:Bs} {bad GJ:Bool} {v:ah} {out:List Chg}
theorem UnW.cur (h:UnW w w.heap.size l bad v out wr) (h2:lI w2 w.heap.size l2 GJ) (hb:But (· =w.heap.size) wr w2):UnW w w.heap.size l2 GJ v out w2:=⟨h2,jd h.r λg hg=>hb.keep g (h.r.lt g hg).2 (by have:=(h.r.lt g hg).1;omega),h.b.top hb λb e=>.inr (by omega)⟩
theorem UnW.below (h:UnW w w.heap.size l bad v out wr) (hb:au wr.heap.size wr w2):UnW w w.heap.size l bad v out w2:=⟨(hb.block _ (yx h.c).1).trans h.c,jd h.r λg hg=>hb.block g (h.r.lt g hg).2,h.b.trans (But.of_below hb)⟩
theorem UnW.app {v':ah} {o:Obj} (h:UnW w w.heap.size l bad v out wr) (c:Chg) (h1:w1=wr.alloc o) (hg:w1.grownBy w2 v.ownBlock) (hr:w2.ownsRow (w.heap.size+1) 87 3 v' (out.length+1) (kV out++[sv c.k,sv c.v,.bool c.g])):UnW w w.heap.size l bad v' (out++[c]) w2:=by
 subst h1;have dY:=(yx h.c).1;refine⟨?_,?_,?_⟩
 ·exact(hg.block _ (by simp;omega) λe=>by have:=(h.r.lt _ e.symm).1;omega).trans ((aU wr o dY).trans h.c)
 ·rw[aq];simpa[kV]using hr
 ·refine⟨?_,λb hb _=>?_,?_,?_⟩
  ·have h1:=hg.size;have h2:=h.b.size;simp at h1;omega
  ·exact(hg.block b (by have:=h.b.size;simp;omega) λe=>by have:=(h.r.lt b e.symm).1;omega).trans ((aU wr o (by have:=h.b.size;omega)).trans (h.b.keep b hb id))
  ·rw[hg.os];exact h.b.os
  ·rw[hg.output];exact h.b.output
theorem UnW.fin (h:UnW w w.heap.size l bad v out wr):yK w (if bad then none else whole out ([],l)) (.returned (.tuple #[v,.bool (!bad&&l.isEmpty&&decide (0<out.length))])) wr:=by
 unfold yK whole;refine⟨?_,h.b⟩;cases bad
 ·rw[if_neg (by decide)];cases hl:l.isEmpty
  ·simp only[hl];exact⟨v,rfl⟩
  ·cases ho:out with
   |nil=>exact⟨v,rfl⟩
   |cons c o=>
    simp only[hl,aO,List.isEmpty_cons,Bool.not_false,Bool.and_self,if_true];refine⟨v,by simp,?_,λb hb=>by have:=(h.r.lt b hb).1;omega⟩;rw[<-ho];exact⟨h.r.1,h.r.2.imp id λ⟨g,cap,cur,e,_,r⟩=>⟨g,cap,cur,e,xzl _,r⟩⟩
 ·exact⟨v,rfl⟩
theorem yK.no (hb:But (λ_=>False) w wr):yK w none (.returned (.tuple #[v,.bool false])) wr:=⟨⟨v,rfl⟩,hb⟩
theorem Nu (w:aa) (a b c:ah) (ty:bo):∀(j:Nat) (u:ah),[a,b,c][j]?=some u->(w.alloc (.cells #[a,b,c] ty)).cell? ((⟨w.heap.size,0,none⟩:Addr).add j)=some u:=λj u hj=>by
 rw[bh,aR];match j,hj with
 |0,hj=>simp at hj;subst hj;go_simp
 |1,hj=>simp at hj;subst hj;go_simp
 |2,hj=>simp at hj;subst hj;go_simp
theorem RA (n:Nat) (l:Bs) (P:Nat->Bs->Option (List Chg×Bs)):((xu l).bind λc=>(P c.1 c.2).bind (whole []))=if(iA 4 true 0 1 l false).2.2 then none else(P (iA 4 true 0 1 l false).1 (iA 4 true 0 1 l false).2.1).bind (whole []):=by
 cases h1:xu l with
 |none=>rw[Q5 h1];rfl
 |some p=>rw[Js h1];rfl
theorem q5m {b t:ByteArray} {l:Bs} {p:Nat} (ht:t.data.toList=l):(b.extract 0 p++t).data.toList=b.data.toList.take p++l:=by
 rw[bu,Array.toList_append,ext_list,ht];rfl
theorem q2o (k l:ByteArray):(aw l.data.toList k.data.toList=true/\aI k.toList l.toList=false/\(k.toList==l.toList)=false)\/(aw l.data.toList k.data.toList=false/\aI k.toList l.toList=true)\/(aw l.data.toList k.data.toList=false/\aI k.toList l.toList=false/\(k.toList==l.toList)=true):=by
 rw[CF,ai,ai];rcases F4 k.data.toList l.data.toList with h|h|h
 ·exact .inr (.inl ⟨EH h,h⟩)
 ·rw[h];exact .inr (.inr ⟨CU _,CU _,beq_self_eq_true _⟩)
 ·exact .inl ⟨h,EH h,Eo h⟩
structure UnR (w:aa) (n:Nat) (s:ByteArray) (k:Nat) (last l:Bs) (bad:Bool) (v:ah) (out:List Chg) (wr:aa):Prop where
 u:UnW w w.heap.size l bad v out wr
 e:unblock n s.data.toList=Av n k last l bad out
 z:bad=false->out.length+l.length<=s.size
 z2:out.length<=s.size
 y:last.length<=8
theorem Yk (n:Nat) (s:ByteArray) (hs:s.size<=268435456):aD prog 130 #[.int .i64 n,.string s] w (yK w (unblock n s.data.toList)):=by
 have HU:Hid (UnW w w.heap.size s.data.toList false (.slice none 0 0) [] (w.alloc (.cells #[.string s,.bool false] 212))):=Hd ⟨by unfold lI;rw[az,qC],aL _ _ _ _,But.of_below ((zk _ _).alloc (ji _) _)⟩;obtain⟨c0,e0⟩:∃c,iA 4 true 0 1 s.data.toList false=c:=⟨_,rfl⟩
 have E0:=Hd e0;have H0:Hid (unblock n s.data.toList=Av n c0.1 [] c0.2.1 c0.2.2 []):=Hd (by rw[<-e0];exact RA n _ (λk l=>yB n k [] l));have HZ:Hid (c0.2.1.length<=s.size):=Hd (by rw[<-e0];simpa using ED 4 true 0 1 s.data.toList false);have O5:c0.1<=268435456:=by have:=Mf 4 true 0 1 s.data.toList false;rw[e0]at this;omega
 have HS:=Hd hs;obtain⟨ci,l1,l2,l3,l4⟩:=Mc;have HI:=Hd (ac l1 (ac l2 (ac l3 l4)));clear e0 l1 l2 l3 l4 hs;go_enter func130,ntmps130;go_wp2_with (go_at_call 128;refine(Cu HU.c).mono ?_;rw[E0.o];rintro e w2 ⟨rfl,h1,h2⟩;have K0:=Hd (HU.cur h1 h2);clear h1 h2)
 go_loopw [7,8,9] (λo la k wr=>∃(out:List Chg) (sa:Option Addr) (cp:Nat) (lb:ByteArray) (j:Nat) (l:Bs) (bad:Bool),o=.slice sa out.length cp/\la=.string lb/\k=.int .i64 j/\j<=268435456/\Hid (UnR w n s j lb.data.toList l bad (.slice sa out.length cp) out wr)) (λ_ _ k _=>(intOf k).toNat);case atStart=>exact⟨[],none,0,⟨#[]⟩,c0.1,c0.2.1,c0.2.2,rfl,rfl,rfl,O5,Hd ⟨K0.o,H0.o,λ_=>by have:=HZ.o;simpa using this,xzl _,xzl _⟩⟩
 case round=>
  obtain⟨out,sa,cp,lb,j,l,bad,rfl,rfl,rfl,Wu,HR⟩:=hrel;obtain⟨sr,uQ⟩:=qp l;obtain⟨OY,eT,_⟩:=HR.u.c.cells uQ;have gJ:=congrArg List.isEmpty uQ;rw[<-ai]at gJ;by_cases hx:j=0\/bad=true
  ·have HF:Hid (yK w (unblock n s.data.toList) (.returned (.tuple #[.slice sa out.length cp,.bool (!bad&&l.isEmpty&&decide (0<out.length))])) wr):=Hd (by
    have:=HR.u.fin;rw[HR.e];unfold Av;cases bad
    ·rcases hx with rfl|h
     ·exact this
     ·cases h
    ·exact this)
   clear uQ;cases bad
   ·obtain rfl:j=0:=hx.elim id λh=>by cases h
    cases hl:l.isEmpty;all_goals
     rw[hl]at gJ HF;go_wp2;go_ret2;simpa using HF.o
   ·by_cases hj:j=0
    ·subst hj;go_wp2;go_ret2;simpa using HF.o
    ·have Hf:((0:Int)<j):=by omega
     go_wp2;go_ret2;simpa using HF.o
  ·obtain⟨j,rfl⟩:∃q,j=q+1:=⟨j-1,by omega⟩
   obtain rfl:bad=false:=by cases bad;rfl;exact absurd (.inr rfl) hx
   have HB:=qtf n j lb.data.toList l out;obtain⟨c1,e1⟩:∃c,iA 4 true 0 1 l false=c:=⟨_,rfl⟩
   rw[e1]at HB;obtain⟨c2,e2⟩:∃c,lD c1.2.1 c1.2.2=c:=⟨_,rfl⟩
   simp only[e2]at HB;obtain⟨c3,e3⟩:∃c,lD c2.2.1 c2.2.2=c:=⟨_,rfl⟩
   simp only[e3]at HB;have Bp:=ED 4 true 0 1 l false;have oZ:=CP c1.2.1 c1.2.2;rw[e1]at Bp;rw[e2]at oZ;obtain⟨tb,ht⟩:=qp c2.1;obtain⟨vb,hv⟩:=qp c3.1;have tY:lb.data.toList.length=lb.size:=by simp
   have iG:=q5m (b:=lb) (p:=c1.1) ht;rw[<-iG,<-hv]at HB;have iQ:(lb.extract 0 c1.1++tb).size<=aE:=by
    rw[vP iG,aq,ax];have:=HR.y;have:=HR.z rfl;have:=HS.o;have:=oZ.1;unfold aE;omega
   have E1:=Hd e1;have E2:=Hd e2;have E3:=Hd e3;have HT:=Hd (ac ht hv);have sO:=Hd HB;have HK:=Hd iQ;have htz:tb.size<=268435456:=by
    rw[vP ht];have:=HR.z rfl;have:=HS.o;have:=oZ.1;omega
   have hlb2:lb.size<=8:=by have:=HR.y;omega
   clear e1 e2 e3 Bp oZ ht hv iG iQ HB uQ gJ tY;by_cases hp:lb.size<c1.1
   ·have gN:decide ((lb.size:Int)<c1.1)=true:=xdt (by omega);go_wp2_with (go_at_call 128;refine(Cu HR.u.c).mono ?_;rw[E1.o];rintro e w3 ⟨rfl,h1,h2⟩;have K1:=Hd (HR.u.cur h1 h2);clear h1 h2)
    go_ret2;rw[HR.e,sO.1 (by simpa using hp)];exact .no K1.b
   ·have gN:decide ((lb.size:Int)<c1.1)=false:=zu (by omega);have nL:((c1.1:Int)<=lb.size):=by omega
    have hp4:c1.1<=lb.size:=by omega
    have hxz:(lb.extract 0 c1.1).size=c1.1:=by simp;omega
    go_wp2_with (go_at_call 128;refine(Cu HR.u.c).mono ?_;rw[E1.o];rintro e w3 ⟨rfl,h1,h2⟩;have K1:=Hd (HR.u.cur h1 h2);clear h1 h2)
    go_region_with (go_at_call 129;refine(yO (K1.below (w2:=_) (by first|exact zk _ _|exact(zk _ _).drew)).c).mono ?_;rw[E2.o,jf HT.1];rintro e w4 ⟨rfl,h1,h2⟩;have K2:=Hd ((K1.below (by first|exact zk _ _|exact(zk _ _).drew)).cur h1 h2);clear h1 h2)
    obtain⟨kb,iG⟩:∃kb,lb.extract 0 c1.1++tb=kb:=⟨_,rfl⟩
    rw[iG]at sO HK⊢;obtain⟨fb,Dq⟩:∃b,iZ n kb.data.toList vb.data.toList=b:=⟨_,rfl⟩
    have hle:=q2o kb lb;rw[Dq]at sO;have DF:=Hd Dq;have Ik:¬lb.data.toList.length<c1.1:=by simpa using hp
    have hoz:out.length<=268435456:=by have:=HR.z2;have:=HS.o;omega
    have HNL:=Hd Ik;clear iG Dq Ik;cases fb
    ·have DC:Hid (unblock n s.data.toList=none):=Hd (by rw[HR.e];exact sO.2.1 rfl);clear hle;go_wp2_with (first
      |(go_at_call 129;refine(yO K2.c).mono ?_;rw[E3.o,jf HT.2];rintro e w5 ⟨rfl,h1,h2⟩;have K3:=Hd (K2.cur h1 h2);clear h1 h2)
      |(go_at_call 140;refine(En n kb vb HK.o).mono ?_;rw[DF.o];rintro e w6 ⟨rfl,h1⟩;have K4:=Hd (K3.below h1);clear h1))
     go_ret2;rw[DC.o];exact .no K4.b
    ·rcases hle with⟨g0,g1,g2⟩|⟨g0,g1⟩|⟨g0,g1,g2⟩
     ·have Ab:=Hd (sO.2.2 HNL.o (by rw[g0];rfl));clear g0;go_wp2_with (first
       |(go_at_call 129;refine(yO K2.c).mono ?_;rw[E3.o,jf HT.2];rintro e w5 ⟨rfl,h1,h2⟩;have K3:=Hd (K2.cur h1 h2);clear h1 h2)
       |(go_at_call 140;refine(En n kb vb HK.o).mono ?_;rw[DF.o];rintro e w6 ⟨rfl,h1⟩;have K4:=Hd (K3.below h1);clear h1)
       |(at_builtin;(refine bm _ rfl (.tmp 53) (.tmp 58) 130 rfl (w.heap.size+1) 87 ci _ 3 40 underlying130 HI.1 HI.2.1 HI.2.2.1 HI.2.2.2 rfl (by decide) (.slice sa out.length cp) out.length (kV out) rfl (K4.r.alloc _) ⟨w6.heap.size,0,none⟩ 1 1 [.string kb,.string vb,.bool false] rfl rfl (Nu w6 _ _ _ _) (by intro u hu;simp at hu;rcases hu with rfl|rfl|rfl<;>rfl) (by unfold aE;omega) (by omega) (by have:=(yx K4.c).1;simp;omega) ?_;intro v2 w7 fq iH _;obtain⟨BS,Dz,oh⟩:=CQ fq;rw[oh]at fq;have K5:=Hd (K4.app ⟨kb.data.toList,vb.data.toList,false⟩ rfl iH (by rw[qC,qC];exact fq));rw[oh];clear fq iH oh)))
      go_roundw;case rel=>exact⟨out++[⟨kb.data.toList,vb.data.toList,false⟩],BS,Dz,kb,j,c3.2.1,c3.2.2,by simp,rfl,by go_num,by omega,Hd ⟨by simpa using K5.o,by rw[HR.e];exact Ab.1,λ_=>by have:=Ab.2.1;have:=HR.z rfl;simp;omega,by have:=Ab.2.1;have:=HR.z rfl;simp;omega,Ab.2.2⟩⟩
      case measure=>simp[intOf]<;>omega
     ·have DC:Hid (unblock n s.data.toList=none):=Hd (by rw[HR.e];exact sO.2.1 (by rw[g0];rfl));clear g0;go_wp2_with (first
       |(go_at_call 129;refine(yO K2.c).mono ?_;rw[E3.o,jf HT.2];rintro e w5 ⟨rfl,h1,h2⟩;have K3:=Hd (K2.cur h1 h2);clear h1 h2)
       |(go_at_call 140;refine(En n kb vb HK.o).mono ?_;rw[DF.o];rintro e w6 ⟨rfl,h1⟩;have K4:=Hd (K3.below h1);clear h1))
      go_ret2;rw[DC.o];exact .no K4.b
     ·have DC:Hid (unblock n s.data.toList=none):=Hd (by rw[HR.e];exact sO.2.1 (by rw[g0];rfl));clear g0;go_wp2_with (first
       |(go_at_call 129;refine(yO K2.c).mono ?_;rw[E3.o,jf HT.2];rintro e w5 ⟨rfl,h1,h2⟩;have K3:=Hd (K2.cur h1 h2);clear h1 h2)
       |(go_at_call 140;refine(En n kb vb HK.o).mono ?_;rw[DF.o];rintro e w6 ⟨rfl,h1⟩;have K4:=Hd (K3.below h1);clear h1))
      go_ret2;rw[DC.o];exact .no K4.b
end
def yD (n k:Nat) (l:Bs) (bad:Bool) (out:List Chg):Option (List Chg):=if bad then none else(rT n k l).bind (whole out)
def Kk (b:UInt8) (c:Bs×Bool):Bs×Bs×Bool:=if b.toNat=1 then lD c.1 c.2 else([],c)
theorem qto (n k:Nat) (l:Bs) (out:List Chg):
  let c1:=iL l false
  let c2:=lD c1.2.1 c1.2.2
  let c3:=Kk c1.1 c2.2
  (c1.1.toNat<1\/2<c1.1.toNat->yD n (k+1) l false out=none)/\(iZ n c2.1 c3.1=false->yD n (k+1) l false out=none)/\
   (¬(c1.1.toNat<1\/2<c1.1.toNat)->iZ n c2.1 c3.1=true->yD n (k+1) l false out=yD n k c3.2.1 c3.2.2 (out++[⟨c2.1,c3.1,c1.1.toNat==2⟩])/\c3.2.1.length<l.length):=by
 simp only[show yD n (k+1) l false out=(rT n (k+1) l).bind (whole out)from rfl];cases l with
 |nil=>exact⟨λ_=>rfl,λ_=>rfl,λh=>(h (.inl (by decide))).elim⟩
 |cons b l=>
  simp only[iL,rT];by_cases hb:b.toNat<1\/2<b.toNat
  ·rw[if_pos (by simpa using hb)];exact⟨λ_=>rfl,λ_=>rfl,λh=>(h hb).elim⟩
  ·rw[if_neg (by simpa using hb)];refine⟨λh=>(hb h).elim,?_⟩;cases h2:kg l with
   |none=>
    rw[Jq h2];refine⟨λ_=>rfl,λ_ h=>?_⟩;rw[show iZ n ([],[],true).1 _=false from q1e n _]at h;cases h
   |some t=>
    rw[A8 h2];have a1:=(CP l false).2;rw[A8 h2]at a1;simp only[ae,Kk]at a1⊢;by_cases h1:b.toNat=1
    ·rw[if_pos h1,if_pos (by simpa using h1)];cases h3:kg t.2 with
     |none=>
      rw[Jq h3];exact⟨λ_=>rfl,λ_ h=>⟨rfl,by simp⟩⟩
     |some v=>
      have a2:=(CP t.2 false).2;rw[A8 h3]at a2⊢;simp only[ae]at a2⊢;refine⟨λh=>by rw[if_neg (by rw[h];decide)];rfl,λ_ h=>?_⟩;rw[if_pos h,MQ];exact⟨rfl,by simp;omega⟩
    ·rw[if_neg h1,if_neg (by simpa using h1)];simp only[ae];refine⟨λh=>by rw[if_neg (by rw[h];decide)];rfl,λ_ h=>?_⟩;rw[if_pos h,MQ];exact⟨rfl,by simp;omega⟩
structure UdR (w:aa) (n:Nat) (s:ByteArray) (k:Nat) (l:Bs) (bad:Bool) (v:ah) (out:List Chg) (wr:aa):Prop where
 u:UnW w w.heap.size l bad v out wr
 e:vM n s.data.toList=yD n k l bad out
 z:bad=false->out.length+l.length<=s.size
 z2:out.length<=s.size
section
variable {w wr w2:aa} {cb x:Nat} {l l2:Bs} {bad GJ:Bool} {v:ah} {out:List Chg}
theorem UnW.but (h:UnW w w.heap.size l bad v out wr) (hb:But (· =x) wr w2) (hx:w.heap.size<x) (hv:v.ownBlock≠some x):UnW w w.heap.size l bad v out w2:=⟨(hb.keep _ (yx h.c).1 (by omega)).trans h.c,jd h.r λg hg=>hb.keep g (h.r.lt g hg).2 (λe=>hv (e▸hg)),h.b.top hb λb e=>.inr (by omega)⟩
def XB (x:Nat) (k v:ByteArray) (g:Bool) (w:aa):Prop:=w.heap[x]?=some (.cells #[.string k,.string v,.bool g] 87 (0,0))
theorem XB.cells {k v:ByteArray} {g:Bool} (h:XB x k v g w):w.cell? ⟨x,0,none⟩=some (.string k)/\w.cell? ⟨x,1,none⟩=some (.string v)/\w.cell? ⟨x,2,none⟩=some (.bool g)/\w.frozen? ⟨x,1,none⟩=false:=by
 unfold XB at h;exact⟨by simp[ag,h],by simp[ag,h],by simp[ag,h],by simp[aF,h]⟩
theorem XB.below {v:ByteArray} (h:XB x k v g w) (hb:au w.heap.size w w2):XB x k v g w2:=(hb.block _ (yx h).1).trans h
theorem XB.set {v v2:ByteArray} (h:XB x k v g w):XB x k v2 g (w.setCell ⟨x,1,none⟩ (.string v2)):=(xhs w x 1 _ _ (.string v2) h).trans rfl
theorem UnW.xb (h:UnW w w.heap.size l bad v out wr) (hn:∀g,v.ownBlock=some g->g<wr.heap.size):UnW w w.heap.size l bad v out (wr.alloc (.cells #[.string k,.string ⟨#[]⟩,.bool g] 87))/\XB wr.heap.size k ⟨#[]⟩ g (wr.alloc (.cells #[.string k,.string ⟨#[]⟩,.bool g] 87))/\w.heap.size<wr.heap.size/\v.ownBlock≠some wr.heap.size:=
 ⟨h.below ((zk _ _).alloc (ji _) _),az _ _,(yx h.c).1,λe=>bX _ (hn _ e)⟩
theorem UnW.fill (h:UnW w w.heap.size l bad v out wr/\XB x k ⟨#[]⟩ g wr) (hx:w.heap.size<x/\v.ownBlock≠some x) (h1:lI w2 w.heap.size l2 GJ) (hb:But (· =w.heap.size) wr w2):(UnW w w.heap.size l2 GJ v out (w2.setCell ⟨x,1,none⟩ (.string vb))/\XB x k vb g (w2.setCell ⟨x,1,none⟩ (.string vb)))/\XB x k ⟨#[]⟩ g w2:=by
 have hq:XB x k ⟨#[]⟩ g w2:=(hb.keep _ (yx h.2).1 (by omega)).trans h.2;exact⟨⟨(h.1.cur h1 hb).but (But.setCell (B:=(· =x)) (But.refl _ _) rfl _ _) hx.1 hx.2,hq.set⟩,hq⟩
theorem Yj (n:Nat) (s:ByteArray) (hs:s.size<=268435456):aD prog 131 #[.int .i64 n,.string s] w (yK w (vM n s.data.toList)):=by
 have HU:Hid (UnW w w.heap.size s.data.toList false (.slice none 0 0) [] (w.alloc (.cells #[.string s,.bool false] 212))):=Hd ⟨by unfold lI;rw[az,qC],aL _ _ _ _,But.of_below ((zk _ _).alloc (ji _) _)⟩;obtain⟨c0,e0⟩:∃c,iA 4 true 0 1 s.data.toList false=c:=⟨_,rfl⟩
 have E0:=Hd e0;have H0:Hid (vM n s.data.toList=yD n c0.1 c0.2.1 c0.2.2 []):=Hd (by rw[<-e0];exact RA n _ (λk l=>rT n k l));have HZ:Hid (c0.2.1.length<=s.size):=Hd (by rw[<-e0];simpa using ED 4 true 0 1 s.data.toList false);have O5:c0.1<=268435456:=by have:=Mf 4 true 0 1 s.data.toList false;rw[e0]at this;omega
 have HS:=Hd hs;obtain⟨ci,l1,l2,l3,l4⟩:=Mc;have HI:=Hd (ac l1 (ac l2 (ac l3 l4)));clear e0 l1 l2 l3 l4 hs;go_enter func131,ntmps131;go_wp2_with (go_at_call 128;refine(Cu HU.c).mono ?_;rw[E0.o];rintro e w2 ⟨rfl,h1,h2⟩;have K0:=Hd (HU.cur h1 h2);clear h1 h2)
 go_loopw [7,8] (λo k wr=>∃(out:List Chg) (sa:Option Addr) (cp:Nat) (j:Nat) (l:Bs) (bad:Bool),o=.slice sa out.length cp/\k=.int .i64 j/\j<=268435456/\Hid (UdR w n s j l bad (.slice sa out.length cp) out wr)) (λ_ k _=>(intOf k).toNat);case atStart=>exact⟨[],none,0,c0.1,c0.2.1,c0.2.2,rfl,rfl,O5,Hd ⟨K0.o,H0.o,λ_=>by have:=HZ.o;simpa using this,xzl _⟩⟩
 case round=>
  obtain⟨out,sa,cp,j,l,bad,rfl,rfl,Wu,HR⟩:=hrel;obtain⟨sr,uQ⟩:=qp l;obtain⟨OY,eT,_⟩:=HR.u.c.cells uQ;have gJ:=congrArg List.isEmpty uQ;rw[<-ai]at gJ;by_cases hx:j=0\/bad=true
  ·have HF:Hid (yK w (vM n s.data.toList) (.returned (.tuple #[.slice sa out.length cp,.bool (!bad&&l.isEmpty&&decide (0<out.length))])) wr):=Hd (by
    have:=HR.u.fin;rw[HR.e];unfold yD;cases bad
    ·rcases hx with rfl|h
     ·exact this
     ·cases h
    ·exact this)
   clear uQ;cases bad
   ·obtain rfl:j=0:=hx.elim id λh=>by cases h
    cases hl:l.isEmpty;all_goals
     rw[hl]at gJ HF;go_wp2;go_ret2;simpa using HF.o
   ·by_cases hj:j=0
    ·subst hj;go_wp2;go_ret2;simpa using HF.o
    ·have Hf:((0:Int)<j):=by omega
     go_wp2;go_ret2;simpa using HF.o
  ·obtain⟨j,rfl⟩:∃q,j=q+1:=⟨j-1,by omega⟩
   obtain rfl:bad=false:=by cases bad;rfl;exact absurd (.inr rfl) hx
   have HB:=qto n j l out;obtain⟨c1,e1⟩:∃c,iL l false=c:=⟨_,rfl⟩
   rw[e1]at HB;obtain⟨c2,e2⟩:∃c,lD c1.2.1 c1.2.2=c:=⟨_,rfl⟩
   simp only[e2]at HB;obtain⟨c3,e3⟩:∃c,Kk c1.1 c2.2=c:=⟨_,rfl⟩
   simp only[e3]at HB;have Bp:=Sy l false;have oZ:=CP c1.2.1 c1.2.2;rw[e1]at Bp;rw[e2]at oZ;obtain⟨kb,hk⟩:=qp c2.1;obtain⟨vb,hv⟩:=qp c3.1;rw[<-hk,<-hv]at HB;have iQ:kb.size<=aE:=by
    rw[vP hk];have:=HR.z rfl;have:=HS.o;have:=oZ.1;unfold aE;omega
   obtain⟨b,eP⟩:∃b,c1.1=b:=⟨_,rfl⟩
   rw[eP]at HB e3;obtain⟨bn,Ht⟩:∃n,b.toNat=n:=⟨_,rfl⟩
   rw[Ht]at HB;unfold Kk at e3;rw[Ht]at e3;have XJ:bn<256:=Ht▸uK b;have E1:=Hd e1;have EB:=Hd (ac eP Ht);have E2:=Hd e2;have E3:=Hd e3;have HT:=Hd (ac hk hv);have sO:=Hd HB;have HK:=Hd iQ;have hoz:out.length<=268435456:=by have:=HR.z2;have:=HS.o;omega
   have Xy:=Hd (λg (hg:(Value.slice sa out.length cp).ownBlock=some g)=>(HR.u.r.lt g hg).2);clear e1 e2 e3 Bp oZ hk hv iQ HB uQ gJ OY eP Ht;have Xv:=HR.z;by_cases hr:bn=1\/bn=2
   ·obtain⟨fb,Dq⟩:∃b,iZ n kb.data.toList vb.data.toList=b:=⟨_,rfl⟩
    rw[Dq]at sO;have DF:=Hd Dq;have Ab:Hid (if fb then vM n s.data.toList=yD n j c3.2.1 c3.2.2 (out++[⟨kb.data.toList,vb.data.toList,bn==2⟩])/\c3.2.1.length<l.length else vM n s.data.toList=none):=Hd (by
     rw[HR.e];cases fb
     ·exact sO.2.1 rfl
     ·exact sO.2.2 (by omega) rfl)
    clear Dq Xv sO;rcases hr with rfl|rfl;all_goals cases fb
    all_goals
     first
     |(have nC:vb=⟨#[]⟩:=by
        have h1:=HT.2;have h2:=E3.o;rw[if_neg (by decide)]at h2;rw[<-h2]at h1;cases vb;simp only[ByteArray.mk.injEq];exact Array.toList_inj.1 h1
       subst nC
       have E4:Hid (c2.2=c3.2):=Hd (by have h2:=E3.o;rw[if_neg (by decide)]at h2;rw[<-h2]))
     |have E4:Hid (lD c2.2.1 c2.2.2=c3):=Hd (by have h2:=E3.o;rwa [if_pos rfl]at h2)
     go_wp2_with (first
      |(go_at_call 127;refine(FT HR.u.c).mono ?_;rw[E1.o,EB.out.1,EB.out.2];rintro e w3 ⟨rfl,h1,h2⟩;have K1:=Hd (HR.u.cur h1 h2);have Z1:=h2.size;clear h1 h2)
      |(go_at_call 129;refine(yO K1.c).mono ?_;rw[E2.o,jf HT.1];rintro e w4 ⟨rfl,h1,h2⟩;have K2:=Hd (λgg=>(K1.cur h1 h2).xb (k:=kb) (g:=gg) λg hg=>xll (Xy.o g hg) (xlt Z1 h2.size));clear h1 h2)
      |(go_at_call 129;refine(yO (K2.o _).1.c).mono ?_;rw[E4.o,jf HT.2];rintro e w5 ⟨rfl,h1,h2⟩;have K3:=Hd (UnW.fill (vb:=vb) ⟨(K2.o _).1,(K2.o _).2.1⟩ (K2.o false).2.2 h1 h2);obtain⟨x0,x1,x2,x3⟩:=K3.2.cells;clear h1 h2)
      |(go_at_call 140;refine(En n kb vb HK.o).mono ?_;rw[DF.o];rintro e w6 ⟨rfl,h1⟩;have K4:=Hd (ac (K3.1.1.below h1) (K3.1.2.below h1));obtain⟨x0,x1,x2,x3⟩:=K4.2.cells;clear h1)
      |(go_at_call 140;refine(En n kb ⟨#[]⟩ HK.o).mono ?_;rw[DF.o];rintro e w6 ⟨rfl,h1⟩;have K4:=Hd (ac ((K2.o true).1.below h1) ((K2.o true).2.1.below h1));obtain⟨x0,x1,x2,x3⟩:=K4.2.cells;clear h1)
      |(at_builtin;(refine bm _ rfl (.tmp 58) (.tmp 60) 130 rfl (w.heap.size+1) 87 ci _ 3 40 underlying130 HI.1 HI.2.1 HI.2.2.1 HI.2.2.2 rfl (by decide) (.slice sa out.length cp) out.length (kV out) rfl (K4.1.r.alloc _) ⟨w6.heap.size,0,none⟩ 1 1 [.string kb,.string vb,.bool false] rfl rfl (Nu w6 _ _ _ _) (by intro u hu;simp at hu;rcases hu with rfl|rfl|rfl<;>rfl) (by unfold aE;omega) (by omega) (by have:=(yx K4.1.c).1;simp;omega) ?_;intro v2 w7 fq iH _;obtain⟨BS,Dz,oh⟩:=CQ fq;rw[oh]at fq;have K5:=Hd (K4.1.app ⟨kb.data.toList,(vb:ByteArray).data.toList,false⟩ rfl iH (by rw[qC,qC];exact fq));rw[oh];clear fq iH oh))
      |(at_builtin;(refine bm _ rfl (.tmp 58) (.tmp 60) 130 rfl (w.heap.size+1) 87 ci _ 3 40 underlying130 HI.1 HI.2.1 HI.2.2.1 HI.2.2.2 rfl (by decide) (.slice sa out.length cp) out.length (kV out) rfl (K4.1.r.alloc _) ⟨w6.heap.size,0,none⟩ 1 1 [.string kb,.string ⟨#[]⟩,.bool true] rfl rfl (Nu w6 _ _ _ _) (by intro u hu;simp at hu;rcases hu with rfl|rfl|rfl<;>rfl) (by unfold aE;omega) (by omega) (by have:=(yx K4.1.c).1;simp;omega) ?_;intro v2 w7 fq iH _;obtain⟨BS,Dz,oh⟩:=CQ fq;rw[oh]at fq;have K5:=Hd (K4.1.app ⟨kb.data.toList,[],true⟩ rfl iH (by rw[qC];exact fq));rw[oh];clear fq iH oh)))
     first
     |(go_ret2
       rw[show vM n s.data.toList=none from Ab.o]
       exact .no K4.1.b)
     |(go_roundw
       case rel=>exact⟨out++[_],BS,Dz,j,c3.2.1,c3.2.2,by simp,by go_num,by omega,Hd ⟨by first|simpa using K5.o|(rw[<-E4.o];simpa using K5.o),Ab.1,λ_=>by have:=Ab.2;have:=HR.z rfl;simp;omega,by have:=Ab.2;have:=HR.z rfl;simp;omega⟩⟩
       case measure=>simp[intOf]<;>omega)
   ·have DC:Hid (vM n s.data.toList=none):=Hd (by rw[HR.e];exact sO.1 (by omega));have wB:((bn:Int)==1)=false:=by simp;omega
    clear Xv sO;go_wp2_with (first
     |(go_at_call 127;refine(FT HR.u.c).mono ?_;rw[E1.o,EB.out.1,EB.out.2];rintro e w3 ⟨rfl,h1,h2⟩;have K1:=Hd (HR.u.cur h1 h2);have Z1:=h2.size;clear h1 h2)
     |(go_at_call 129;refine(yO K1.c).mono ?_;rw[E2.o,jf HT.1];rintro e w4 ⟨rfl,h1,h2⟩;have K2:=Hd (λgg=>(K1.cur h1 h2).xb (k:=kb) (g:=gg) λg hg=>xll (Xy.o g hg) (xlt Z1 h2.size));clear h1 h2))
    all_goals first
     |(exfalso;omega)
     |(go_ret2
       rw[DC.o]
       exact .no (K2.o _).1.b)
end
def doL (L:KV) (c:Chg):KV:=if c.g then jT L c.k else lU L c.k c.v
theorem q6u (k v:Bs) (L:KV):(ins k v L).length=L.length+1:=by
 induction L with
 |nil=>rfl
 |cons p L ih=>rw[ins];split<;>simp[ih]
theorem Rj (L:KV) (c:Chg):(doL L c).length<=L.length+1:=by
 unfold doL jT lU;split
 ·exact Nat.le_succ_of_le (aX _ _)
 ·rw[q6u];exact Nat.succ_le_succ (aX _ _)
theorem JD {l:Bs} (h:kg l=some p):p.2.length<=l.length:=by
 have:=(CP l false).2;rwa [A8 h]at this
theorem TY {l:Bs} {p:Nat×Bs} (h:xu l=some p):p.2.length<l.length:=by
 cases l with
 |nil=>simp[xu,nX]at h
 |cons b l=>
  have:=Q6 0 1 b l false;rw[Js h]at this;exact Nat.lt_succ_of_le this
theorem Ro (n:Nat):∀(k:Nat) (last l:Bs) (r:List Chg×Bs),yB n k last l=some r->(∀c∈r.1,iZ n c.k c.v=true)/\r.1.length+r.2.length<=l.length
 |0,last,l,r,h=>by cases h;exact⟨by simp,by simp⟩
 |k+1,last,l,r,h=>by
  rw[yB]at h;obtain⟨p,h1,h⟩:=ao.1 h;split at h
  ·cases h
  ·obtain⟨t,h2,h⟩:=ao.1 h;obtain⟨v,h3,h⟩:=ao.1 h;split at h
   ·rename_i hf;obtain⟨q,h4,rfl⟩:=aS.1 h;obtain⟨a1,a2⟩:=Ro n k _ _ q h4;simp only[aJ]at hf;have:=TY h1;have:=JD h2;have:=JD h3;exact⟨λc hc=>by rcases bB.1 hc with rfl|hc;exact hf.1;exact a1 c hc,by simp;omega⟩
   ·cases h
theorem Rk (n:Nat):∀(k:Nat) (l:Bs) (r:List Chg×Bs),rT n k l=some r->(∀c∈r.1,iZ n c.k c.v=true)/\r.1.length+r.2.length<=l.length
 |0,l,r,h=>by rw[rT]at h;cases h;exact⟨by simp,by simp⟩
 |k+1,[],r,h=>by simp[rT]at h
 |k+1,b::l,r,h=>by
  rw[rT]at h;split at h
  ·cases h
  ·obtain⟨t,h2,h⟩:=ao.1 h;obtain⟨v,h3,h⟩:=ao.1 h;have hv:v.2.length<=t.2.length:=by
    split at h3
    ·exact JD h3
    ·cases h3;exact ji _
   split at h
   ·rename_i hf;obtain⟨q,h4,rfl⟩:=aS.1 h;obtain⟨a1,a2⟩:=Rk n k _ q h4;have:=JD h2;exact⟨λc hc=>by rcases bB.1 hc with rfl|hc;exact hf;exact a1 c hc,by simp;omega⟩
   ·cases h
def ny (kind n:Nat) (l:Bs):Option (List Chg):=if kind=2 then unblock n l else vM n l
theorem RN {kind:Nat} {l:Bs} {cs:List Chg} (h:ny kind n l=some cs):(∀c∈cs,iZ n c.k c.v=true)/\cs.length<=l.length:=by
 have key:∀o:Option (List Chg×Bs),(∀r,o=some r->(∀c∈r.1,iZ n c.k c.v=true)/\r.1.length+r.2.length<=l.length)->o.bind (whole [])=some cs->(∀c∈cs,iZ n c.k c.v=true)/\cs.length<=l.length:=λo ho h=>by
  obtain⟨r,h1,h2⟩:=ao.1 h;unfold whole at h2;split at h2
  ·cases h2;obtain⟨a1,a2⟩:=ho r h1;exact⟨by simpa using a1,by simp;omega⟩
  ·cases h2
 unfold ny unblock vM at h;split at h;all_goals
  obtain⟨p,h1,h2⟩:=ao.1 h;have h3:=TY h1;refine key _ (λr hr=>?_) h2
 ·obtain⟨a1,a2⟩:=Ro n _ _ _ r hr;exact⟨a1,by omega⟩
 ·obtain⟨a1,a2⟩:=Rk n _ _ r hr;exact⟨a1,by omega⟩
section
variable {w w2:aa} {sb db mb id next:Nat} {done:Bool} {kv:KV}
theorem iO.lt (h:iO w sb db mb id next done kv):sb<w.heap.size/\db<w.heap.size/\mb<w.heap.size:=⟨(yx h.s).1,(yx h.d).1,h.m.lt⟩
theorem iO.idle (h:iO w sb db mb id next done kv) (hb:But (λ_=>False) w w2):iO w2 sb db mb id next done kv:=h.block λb eP=>hb.keep b (by have:=h.lt;omega) λx=>x
theorem iO.but (h:iO w sb db mb id next done kv) (hb:But (· =mb) w w2) (hm:jv w2 mb L):iO w2 sb db mb id next done L:=⟨(hb.keep _ h.lt.1 (zx h.m h.s)).trans h.s,(hb.keep _ h.lt.2.1 (zx h.m h.d)).trans h.d,hm⟩
theorem iO.cells (h:iO w sb db mb id next done kv):w.cell? ⟨sb,0,none⟩=some (.int .i64 id)/\w.cell? ⟨sb,1,none⟩=some (.int .i64 next)/\w.cell? ⟨sb,2,none⟩=some (.pointer (some ⟨db,0,none⟩))/\w.cell? ⟨sb,3,none⟩=some (.bool done)/\∀j,w.frozen? ⟨sb,j,none⟩=false:=
 ⟨by simp[ag,h.s],by simp[ag,h.s],by simp[ag,h.s],by simp[ag,h.s],λj=>by simp[aF,h.s]⟩
theorem iO.ne (h:iO w sb db mb id next done kv):sb≠db:=λe=>by
 have h1:=h.s;rw[e,h.d]at h1;have e2:=xoi h1;injection e2 with _ e3;exact absurd e3 (by decide)
theorem jcq (hd:w.cell? ⟨db,0,none⟩=some (.map (some mb))) (hm:jv w mb kv) (hL:kv.length<1073741823) (k v:ByteArray) (g:Bool) (hk:k.size<=aE):
  aD prog 69 #[.pointer (some ⟨db,0,none⟩),.agg #[.string k,.string v,.bool g]] w (LJ w mb (doL kv ⟨k.data.toList,v.data.toList,g⟩)):=by
 cases g
 ·exact FQ hd hm hL k v hk
 ·exact LA hd hm k v hk
end
def nY (kd sh:Nat) (ld:Bs) (kv:KV):Bool×KV×Bool:=if kd=4 then(ld.isEmpty,kv,ld.isEmpty)else match ny kd sh ld with
 |none=>(false,kv,false)
 |some cs=>(true,cs.foldl doL kv,false)
structure TkW (w:aa) (sb db mb id next:Nat) (kv:KV) (v:ah) (cs:List Chg) (j:Nat) (wr:aa):Prop where
 s:iO wr sb db mb id next false ((cs.take j).foldl doL kv)
 r:Eg wr v cs
 b:But (· =mb) w wr
def F5 (w:aa) (sb db mb id next:Nat) (r:Bool×KV×Bool) (e:bK) (w':aa):Prop:=e=.returned (.bool r.1)/\iO w' sb db mb id next r.2.2 r.2.1/\But (λb=>b=sb\/b=mb) w w'
theorem MJ:∀(L:List Chg) (k:Nat) (c:Chg),L[k]?=some c->(kV L)[k*3]?=some (sv c.k)/\(kV L)[k*3+1]?=some (sv c.v)/\(kV L)[k*3+2]?=some (.bool c.g)
 |[],k,c,h=>by simp at h
 |a::L,0,c,h=>by simp at h;subst h;exact⟨rfl,rfl,rfl⟩
 |a::L,k+1,c,h=>by
  show(sv a.k::sv a.v::Value.bool a.g::kV L)[(k+1)*3]?=_/\(sv a.k::sv a.v::Value.bool a.g::kV L)[(k+1)*3+1]?=_/\(sv a.k::sv a.v::Value.bool a.g::kV L)[(k+1)*3+2]?=_;rw[show(k+1)*3=k*3+1+1+1 by omega];simpa using MJ L k c (by simpa using h)
section
variable {w wr w2:aa} {sb db mb id next:Nat} {kv:KV} {v:ah} {cs:List Chg} {j:Nat}
theorem q1h (cs:List Chg) (kv:KV):(cs.foldl doL kv).length<=kv.length+cs.length:=by
 induction cs generalizing kv with
 |nil=>simp
 |cons c cs ih=>
  have h1:=ih (doL kv c);have h2:=Rj kv c;simp only[List.foldl_cons,aK];omega
theorem TkW.below (h:TkW w sb db mb id next kv v cs j wr) (hb:au wr.heap.size wr w2):TkW w sb db mb id next kv v cs j w2:=⟨h.s.idle (But.of_below hb),h.r.block λg hg=>hb.block g (World.ownsRow.lt h.r g hg).2,h.b.trans (But.of_below hb)⟩
theorem TkW.succ {c:Chg} (h:TkW w sb db mb id next kv v cs j wr) (hc:cs[j]?=some c) (hb:But (· =mb) wr w2) (hm:jv w2 mb (doL ((cs.take j).foldl doL kv) c)):TkW w sb db mb id next kv v cs (j+1) w2:=by
 obtain⟨hj,rfl⟩:=am.1 hc;have e:(cs.take (j+1)).foldl doL kv=doL ((cs.take j).foldl doL kv) cs[j]:=by rw[aV hj,List.foldl_append];rfl
 refine⟨by rw[e];exact h.s.but hb hm,h.r.block λg hg=>hb.keep g (World.ownsRow.lt h.r g hg).2 ?_,h.b.trans hb⟩;obtain⟨cur,DW⟩:=wS h.r hg;exact zx h.s.m DW
theorem TkW.cells {c:Chg} {sa:Option Addr} {n cp:Nat} (h:TkW w sb db mb id next kv (.slice sa n cp) cs j wr) (hc:cs[j]?=some c):n=cs.length/\∃g,sa=some ⟨g,0,none⟩/\wr.cell? ⟨g,j*3,none⟩=some (sv c.k)/\wr.cell? ⟨g,j*3+1,none⟩=some (sv c.v)/\wr.cell? ⟨g,j*3+2,none⟩=some (.bool c.g):=by
 obtain⟨hj,_⟩:=am.1 hc;have hr:=h.r;unfold Eg at hr;rcases hr.2 with⟨hv,hz⟩|⟨g,cap,cur,hv,_⟩
 ·omega
 ·injection hv with h1 h2 h3;subst h1 h2 h3;obtain⟨q1,q2,q3⟩:=MJ cs j c hc;have d:=λi u hi=>hr.cells (g:=g) rfl i u hi;have d1:=d _ _ q1;have d2:=d _ _ q2;have d3:=d _ _ q3;rw[bh,aR]at d1 d2 d3;exact⟨rfl,g,rfl,d1,d2,d3⟩
theorem iO.fin {done:Bool} (h:iO w sb db mb id next done kv) (b:Bool):iO (w.setCell ⟨sb,3,none⟩ (.bool b)) sb db mb id next b kv/\But (λq=>q=sb\/q=mb) w (w.setCell ⟨sb,3,none⟩ (.bool b)):=by
 refine⟨⟨(xhs w sb 3 _ _ (.bool b) h.s).trans rfl,(xho w _ _ _ h.ne.symm).trans h.d,h.m.block (xho w _ _ _ λe=>zx h.m h.s e.symm)⟩,But.setCell (But.refl _ _) (.inl rfl) _ _⟩
theorem jft (h:iO w sb db mb id next false kv) (kd sh fi fn:Nat) (ld:ByteArray) (uS:kd=2\/kd=3\/kd=4) (hl:ld.size<=268435456) (pF:kv.length<=268435456):
  aD prog 103 #[.pointer (some ⟨sb,0,none⟩),.agg #[.int .u8 kd,.int .i64 sh,.int .i64 fi,.int .i64 fn,.string ld]] w (F5 w sb db mb id next (nY kd sh ld.data.toList kv)):=by
 by_cases h4:kd=4
 ·subst h4;have gJ:ld.toList.isEmpty=ld.data.toList.isEmpty:=by rw[ai]
  obtain⟨a0,a1,a2,a3,af⟩:=h.cells;have dY:=h.lt.1;unfold F5 nY;rw[if_pos rfl];have HS:=Hd (λb=>h.fin b);clear h;cases he:ld.data.toList.isEmpty;all_goals
   rw[he]at gJ;go_enter func103,ntmps103;go_wp2;go_ret;exact⟨rfl,(HS.o _).1.idle (But.of_below ((zk _ _).alloc (ji _) _)),(HS.o _).2.trans (But.of_below ((zk _ _).alloc (ji _) _))⟩
 ·have HH:=Hd h;obtain⟨f,hf⟩:∃f,ny kd sh ld.data.toList=f:=⟨_,rfl⟩
  have HC:∀w1:aa,aD prog (if kd=2 then 130 else 131) #[.int .i64 sh,.string ld] w1 (yK w1 f):=λw1=>by
   rw[<-hf];unfold ny;split
   ·exact Yk sh ld hl
   ·exact Yj sh ld hl
  have HO:∀cs,f=some cs->(∀c∈cs,iZ sh c.k c.v=true)/\cs.length<=268435456:=λcs e=>by
   obtain⟨a1,a2⟩:=RN (hf.trans e);exact⟨a1,xlt a2 (by simpa using hl)⟩
  have Xz:=Hd HO;unfold F5 nY;rw[if_neg h4,hf];have K8:=Hd HC;clear h hf HC HO;rcases uS with rfl|rfl|rfl
  rotate_right
  ·exact absurd rfl h4
  all_goals
   first|rw[if_pos rfl]at K8|rw[if_neg (by decide)]at K8
   cases f with
   |none=>
    go_enter func103,ntmps103;go_wp2_with ((first|go_at_call 130|go_at_call 131);refine(K8.o _).mono ?_;rintro e w1 ⟨⟨v,rfl⟩,h1⟩;have K1:=Hd (HH.idle (But.trans (But.of_below ((zk _ _).alloc (ji _) _)) h1));have B1:=Hd h1;clear h1)
    go_ret;exact⟨rfl,K1.o,(But.of_below ((zk _ _).alloc (ji _) _)).trans (B1.mono λ_ x=>x.elim)⟩
   |some cs=>
    go_enter func103,ntmps103;go_wp2_with ((first|go_at_call 130|go_at_call 131);refine(K8.o _).mono ?_;rintro e w1 ⟨⟨v,rfl,r1,_⟩,h1⟩;obtain⟨sa,cp,hv⟩:=CQ r1;rw[hv]at r1⊢;have K1:Hid (TkW w sb db mb id next kv (.slice sa cs.length cp) cs 0 w1):=Hd ⟨HH.idle (But.trans (But.of_below ((zk _ _).alloc (ji _) _)) h1),r1,(But.of_below ((zk _ _).alloc (ji _) _)).trans (h1.mono λ_ x=>x.elim)⟩;clear h1 r1 hv)
    go_loopw [46] (λi wr=>∃j:Nat,j<=cs.length/\i=.int .i64 j/\Hid (TkW w sb db mb id next kv (.slice sa cs.length cp) cs j wr)) (λi _=>cs.length-(intOf i).toNat);case atStart=>exact⟨0,xzl _,rfl,K1⟩
    case round=>
     obtain⟨j,hj,rfl,HK⟩:=hrel;have mZ:cs.length<=268435456:=(Xz.o cs rfl).2;by_cases jO:j<cs.length
     ·obtain⟨c,hc⟩:∃c,cs[j]?=some c:=⟨_,ay jO⟩
      obtain⟨_,g,rfl,d1,d2,d3⟩:=HK.cells hc;obtain⟨kb,iG⟩:=qp c.k;obtain⟨vb,nC⟩:=qp c.v;rw[jf iG]at d1;rw[jf nC]at d2;have HP:=Hd (HK.below ((zk wr.heap.size wr).alloc (ji _) (.cells #[.string kb,.string vb,.bool c.g] 87)));have HD:∀w1,au (wr.alloc (.cells #[.string kb,.string vb,.bool c.g] 87)).heap.size (wr.alloc (.cells #[.string kb,.string vb,.bool c.g] 87)) w1->aD prog 69 #[.pointer (some ⟨db,0,none⟩),.agg #[.string kb,.string vb,.bool c.g]] w1 λe w'=>e=.returned (.tuple #[])/\TkW w sb db mb id next kv (.slice (some ⟨g,0,none⟩) cs.length cp) cs (j+1) w':=λw1 hb=>by
       have hp:=HP.below hb;have hf:=q1h (cs.take j) kv;rw[ax]at hf;have hkf:=Jk ((Xz.o cs rfl).1 c (aH hc));refine(jcq (by simp[ag,hp.s.d]) hp.s.m (by omega) kb vb c.g (by rw[vP iG];unfold aE;omega)).mono λe w' ⟨e1,e2,e3⟩=>⟨e1,hp.succ hc e3 ?_⟩
       rw[iG,nC]at e2;exact e2
      have XD:=Hd HD;obtain⟨_,_,b2,_,_⟩:=HP.s.cells;clear HD hc iG nC;go_wp2;have x0:(wr.alloc (.cells #[.string kb,.string vb,.bool c.g] 87)).cell? ⟨wr.heap.size,0,none⟩=some (.string kb):=by go_simp
      have x1:(wr.alloc (.cells #[.string kb,.string vb,.bool c.g] 87)).cell? ⟨wr.heap.size,1,none⟩=some (.string vb):=by go_simp
      have x2:(wr.alloc (.cells #[.string kb,.string vb,.bool c.g] 87)).cell? ⟨wr.heap.size,2,none⟩=some (.bool c.g):=by go_simp
      obtain⟨wa,V9⟩:∃wa,wr.alloc (.cells #[.string kb,.string vb,.bool c.g] 87)=wa:=⟨_,rfl⟩
      rw[V9]at XD b2 x0 x1 x2⊢;clear V9 d1 d2 d3;go_region_with (go_at_call 69;refine(XD.o _ (by first|exact zk _ _|exact(zk _ _).drew)).mono ?_;rintro e w2 ⟨rfl,h2⟩;have H2:=Hd h2;clear h2)
      all_goals
       go_wp2;go_roundw;case rel=>exact⟨j+1,by omega,by go_num,H2⟩
       case measure=>simp[intOf]<;>omega
     ·obtain rfl:j=cs.length:=by omega
      have HE:Hid (iO wr sb db mb id next false (cs.foldl doL kv)):=Hd (by have:=HK.s;rwa [bM]at this);go_wp2;go_ret;exact⟨rfl,HE.o,HK.b.mono λ_ x=>.inr x⟩
end
end
section
theorem Ul:∀(l m:Bs),l.take (jy l m)=m.take (jy l m)
 |a::l,b::m=>by
  unfold jy;split
  ·rename_i e;rw[aj,aj,Ul l m,e]
  ·simp
 |[],m=>by simp[jy]
 |a::l,[]=>by simp[jy]
def tH:Bs->KV->Bs
 |_,[]=>[]
 |last,p::r=>xq last p.1 p.2++tH p.1 r
def rY:List Chg->Bs
 |[]=>[]
 |c::r=>yg c++rY r
def asC (l:KV):List Chg:=l.map λp=>⟨p.1,p.2,false⟩
theorem M9:∀(l:KV) (last s:Bs) (n:Nat),∃j,j<=l.length/\qR last l s n=(s++tH last (l.take j),n+j)/\(n=0->l≠[]->1<=j)/\(s.length<=39->(n=0->s=[])->last.length<=8->(∀p∈l,p.1.length<=8/\p.2.length<=12)->(s++tH last (l.take j)).length<=39)
 |[],last,s,n=>⟨0,ji _,by simp[qR,tH],λ_ h=>absurd rfl h,λh _ _ _=>by simpa[tH]using h⟩
 |p::r,last,s,n=>by
  rw[qR];by_cases h:0<n/\40<1+s.length+(xq last p.1 p.2).length
  ·rw[if_pos h];exact⟨0,xzl _,by simp[tH],λh0=>by omega,λh _ _ _=>by simpa[tH]using h⟩
  ·rw[if_neg h];obtain⟨j,h1,h2,h3,h4⟩:=M9 r p.1 (s++xq last p.1 p.2) (n+1);refine⟨j+1,by simpa using h1,?_,λ_ _=>by omega,λa1 a2 a3 a4=>?_⟩
   ·rw[h2,aj,tH,aA];simp;omega
   ·rw[aj,tH,<-aA];obtain⟨q1,q2⟩:=a4 p (.head _);have hp:=Uh last p.1 p.2 a3 q1 q2;refine h4 ?_ (λh=>by omega) q1 λx hx=>a4 x (.tail _ hx);rw[aq];by_cases h0:0<n
    ·have:=λx=>h ⟨h0,x⟩;omega
    ·rw[a2 (by omega)];simp;omega
theorem M7:∀(l:List Chg) (s:Bs) (n:Nat),∃j,j<=l.length/\qQ l s n=(s++rY (l.take j),n+j)/\(n=0->l≠[]->1<=j)/\(s.length<=39->(n=0->s=[])->(∀p∈l,p.k.length<=8/\p.v.length<=12)->(s++rY (l.take j)).length<=39)
 |[],s,n=>⟨0,ji _,by simp[qQ,rY],λ_ h=>absurd rfl h,λh _ _=>by simpa[rY]using h⟩
 |p::r,s,n=>by
  rw[qQ];by_cases h:0<n/\40<1+s.length+(yg p).length
  ·rw[if_pos h];exact⟨0,xzl _,by simp[rY],λh0=>by omega,λh _ _=>by simpa[rY]using h⟩
  ·rw[if_neg h];obtain⟨j,h1,h2,h3,h4⟩:=M7 r (s++yg p) (n+1);refine⟨j+1,by simpa using h1,?_,λ_ _=>by omega,λa1 a2 a4=>?_⟩
   ·rw[h2,aj,rY,aA];simp;omega
   ·rw[aj,rY,<-aA];obtain⟨q1,q2⟩:=a4 p (.head _);have hp:=Uf p q1 q2;refine h4 ?_ (λh=>by omega) λx hx=>a4 x (.tail _ hx);rw[aq];by_cases h0:0<n
    ·have:=λx=>h ⟨h0,x⟩;omega
    ·rw[a2 (by omega)];simp;omega
theorem yT {k v:Bs} (h:iZ n k v=true):k.length<=8/\v.length<=12:=by
 refine⟨Jk h,?_⟩;unfold iZ at h;simp only[aJ,decide_eq_true_eq]at h;exact h.2
theorem Sn (n:Nat):∀(l:KV) (last rest:Bs),last.length<=8->(∀p∈l,iZ n p.1 p.2=true)->(∀p∈l.head?,aw last p.1=true)->zm l->yB n l.length last (tH last l++rest)=some (asC l,rest)
 |[],_,_,_,_,_,_=>rfl
 |p::r,last,rest,hl,hf,hb,hr=>by
  obtain⟨q1,q2⟩:=yT (hf p (.head _));have hs:=Gh last p.1;obtain⟨hp,Dc⟩:=bF.1 hr;have ih:=Sn n r p.1 rest q1 (λx hx=>hf x (.tail _ hx)) (λx hx=>hp x (List.mem_of_mem_head? hx)) Dc;rw[aK,yB,tH,xq];simp only[aA];rw[EM (by omega)];simp only[ae];rw[if_neg (by omega),EO (by simp;omega)];simp only[ae];rw[EO (by omega)];simp only[ae];rw[Ul,List.take_append_drop,hf p (.head _),hb p rfl];simp only[Bool.and_self,if_true];rw[ih];rfl
theorem Sc (n:Nat):∀(l:List Chg) (rest:Bs),(∀c∈l,iZ n c.k c.v=true/\(c.g=true->c.v=[]))->rT n l.length (rY l++rest)=some (l,rest)
 |[],_,_=>by simp[rY,rT]
 |c::r,rest,hf=>by
  obtain⟨q,q0⟩:=hf c (.head _);obtain⟨q1,q2⟩:=yT q;have ih:=Sc n r rest λx hx=>hf x (.tail _ hx);rw[aK,rY,yg];obtain⟨k,v,g⟩:=c;cases g
  ·simp only[bE,if_false,aA,bN,List.nil_append];rw[rT];rw[if_neg (by decide),EO (by simpa using aP q1 (by decide))];simp only[ae];rw[if_pos (by decide),EO (by simpa using aP q2 (by decide))];simp only[ae];rw[if_pos q,ih];rfl
  ·obtain rfl:v=[]:=q0 rfl;simp only[if_true,aA,bN,List.nil_append];rw[rT];rw[if_neg (by decide),EO (by simpa using aP q1 (by decide))];simp only[ae];rw[if_neg (by decide)];simp only[ae];rw[if_pos q,ih];rfl
theorem TU:∀(l:KV) (last:Bs),2*l.length<=(tH last l).length
 |[],_=>xzl _
 |p::r,last=>by
  have ih:=TU r p.1;have h1:∀k,1<=(vz k).length:=λk=>by rw[vz];split<;>simp
  have h2:=h1 (jy last p.1);have h3:=h1 p.2.length;rw[tH,xq];simp only[aq,aK,ve];omega
theorem TT:∀l:List Chg,2*l.length<=(rY l).length
 |[]=>xzl _
 |p::r=>by
  have ih:=TT r;have h1:∀k,1<=(vz k).length:=λk=>by rw[vz];split<;>simp
  have h2:=h1 p.k.length;rw[rY,yg];split<;>simp only[aq,aK,bO,ve]<;>omega
theorem qr9 (h:zm l) (j:Nat):zm (l.take j):=List.Pairwise.sublist (List.take_sublist j l) h
theorem q0n (hf:∀p∈l,iZ n p.1 p.2=true) (hr:zm l) (eB:l≠[]):1<=(mU l).2/\(mU l).2<=l.length/\(mU l).1.length<=40/\ny 2 n (mU l).1=some (asC (l.take (mU l).2)):=by
 obtain⟨j,h1,h2,h3,h4⟩:=M9 l [] [] 0;have hl:=h4 (by decide) (λ_=>rfl) (by decide) λp hp=>yT (hf p hp);have hj:=h3 rfl eB;have hlen:=TU (l.take j) [];unfold mU;rw[h2];simp only[List.nil_append,aR]at hl⊢;rw[ax,Nat.min_eq_left h1]at hlen;refine⟨hj,h1,by rw[vo (by omega)];simp;omega,?_⟩;have hb:=Sn n (l.take j) [] [] (by decide) (λp hp=>hf p (bd hp)) (λp hp=>?_) (qr9 hr j)
 ·rw[ax,Nat.min_eq_left h1,aO]at hb;unfold ny unblock;rw[if_pos rfl,EM (by omega)];simp only[ae];rw[hb];simp only[ae,whole,List.nil_append,List.isEmpty_nil,bY];rw[if_pos];cases l with
  |nil=>exact absurd rfl eB
  |cons p l=>
   obtain⟨i,rfl⟩:∃i,j=i+1:=⟨j-1,by omega⟩
   rfl
 ·have:=hf p (bd (List.mem_of_mem_head? hp));unfold iZ iT at this;simp only[aJ,decide_eq_true_eq]at this;cases h:p.1 with
  |nil=>rw[h]at this;simp at this
  |cons a b=>rfl
theorem q02 {l:List Chg} (hf:∀c∈l,iZ n c.k c.v=true/\(c.g=true->c.v=[])) (eB:l≠[]):1<=(mR l).2/\(mR l).2<=l.length/\(mR l).1.length<=40/\ny 3 n (mR l).1=some (l.take (mR l).2):=by
 obtain⟨j,h1,h2,h3,h4⟩:=M7 l [] 0;have hl:=h4 (by decide) (λ_=>rfl) λp hp=>yT (hf p hp).1;have hj:=h3 rfl eB;have hlen:=TT (l.take j);unfold mR;rw[h2];simp only[List.nil_append,aR]at hl⊢;rw[ax,Nat.min_eq_left h1]at hlen;refine⟨hj,h1,by rw[vo (by omega)];simp;omega,?_⟩;have hb:=Sc n (l.take j) [] λp hp=>hf p (bd hp);rw[ax,Nat.min_eq_left h1,aO]at hb;unfold ny vM;rw[if_neg (by decide),EM (by omega)];simp only[ae];rw[hb];simp only[ae,whole,List.nil_append,List.isEmpty_nil,bY];rw[if_pos];cases l with
 |nil=>exact absurd rfl eB
 |cons p l=>
  obtain⟨i,rfl⟩:∃i,j=i+1:=⟨j-1,by omega⟩
  rfl
end
end Go.Proofs.YtkpekiajdlolnabGreat
namespace Go.Proofs.YtkpekiajdlolnabGreat.Ph
open Go.Conc Go.ConcN Go.RowKit Go.Maps Go.Conc.Lib Go Sim
theorem ji7 (y:Nat->ah):lay 41 y=#[y 0,y 1,y 2,y 3,y 4,y 5,y 6,y 7,y 8,y 9,y 10,y 11,y 12,y 13,y 14,y 15,y 16,y 17,y 18,y 19,y 20,y 21,y 22,y 23,y 24,y 25,y 26,y 27,y 28,y 29,y 30,y 31,y 32,y 33,y 34,y 35,y 36,y 37,y 38,y 39,y 40]:=rfl
def frB (kd sh id n:Nat) (ld:ByteArray):ByteArray:=⟨(Fr.bytes ⟨kd,sh,id,n,ld.data.toList⟩).toArray⟩
def frX (kd sh id n:Nat) (ld:ByteArray):ByteArray:=(⟨#[b8 kd,b8 sh]⟩:ByteArray)++⟨(vz id).toArray⟩++⟨(vz n).toArray⟩++⟨(ve ld.data.toList).toArray⟩
theorem RZ (kd sh id n:Nat) (ld:ByteArray):(frX kd sh id n ld).data.toList=Fr.body ⟨kd,sh,id,n,ld.data.toList⟩:=by
 simp[frX,Fr.body]
theorem Y1 (kd sh id n:Nat) (ld:ByteArray):frX kd sh id n ld++(⟨(le4 (chk (frX kd sh id n ld).data.toList)).toArray⟩:ByteArray)=frB kd sh id n ld:=by
 have h:(frX kd sh id n ld++(⟨(le4 (chk (frX kd sh id n ld).data.toList)).toArray⟩:ByteArray)).data.toList=(frB kd sh id n ld).data.toList:=by
  simp only[bu,Array.toList_append,RZ,frB,Fr.bytes,List.toList_toArray]
 have h2:∀a b:ByteArray,a.data.toList=b.data.toList->a=b:=λa b e=>by
  cases a;cases b;simp only[ByteArray.mk.injEq];exact Array.toList_inj.1 e
 exact h2 _ _ h
theorem EF (h:n<9223372036854775808):(vz n).length<=9:=y5 8 n (by omega)
theorem q1k {kd sh id:Nat} {ld:ByteArray} (h1:id<9223372036854775808) (h2:n<9223372036854775808) (h3:ld.size<=1048576):(frX kd sh id n ld).size<=2097152:=by
 have a1:=EF h1;have a2:=EF h2;have a3:=EF (n:=ld.data.toList.length) (by simp;omega);have e:(frX kd sh id n ld).size=(frX kd sh id n ld).data.toList.length:=by simp
 rw[e,RZ];simp only[Fr.body,aq,aK,bO,ve];have:ld.data.toList.length=ld.size:=by simp
 omega
theorem q2n (w:aa):(convert 139 9 (.slice (some ⟨w.heap.size,0,none⟩) 4 4)).run prog (w.alloc (.cells #[.int .u8 ((C:Int)%256),.int .u8 ((C:Int)/256%256),.int .u8 ((C:Int)/65536%256),.int .u8 ((C:Int)/16777216%256)] 5))=.ok (.string ⟨#[b8 C,b8 (C/256),b8 (C/65536),b8 (C/16777216)]⟩) (w.alloc (.cells #[.int .u8 ((C:Int)%256),.int .u8 ((C:Int)/256%256),.int .u8 ((C:Int)/65536%256),.int .u8 ((C:Int)/16777216%256)] 5)):=
 jhi _ _ ((C:Int)%256) ((C:Int)/256%256) ((C:Int)/65536%256) ((C:Int)/16777216%256) _ _ _ _ (by simp[b8]) (by simp[b8]) (by simp[b8]) (by simp[b8]) (by go_simp) (by go_simp) (by go_simp) (by go_simp)
theorem F8 (kd sh id n:Nat) (ld:ByteArray) (uS:kd<256) (iM:sh<256) (hid:id<9223372036854775808) (hn:n<9223372036854775808) (fG:ld.size<=1048576):
  aD prog 75 #[.agg #[.int .u8 kd,.int .i64 sh,.int .i64 id,.int .i64 n,.string ld]] w λe w'=>e=.returned (.string (frB kd sh id n ld))/\au w.heap.size w w':=by
 have HX:=Hd (q1k (kd:=kd) (sh:=sh) hid hn fG);have HB:=Hd (Y1 kd sh id n ld);have H1:=Hd (ac uS (ac iM (ac hid (ac hn fG))));have l3:(ve ld.data.toList).length<=1048585:=by
  have a3:=EF (n:=ld.data.toList.length) (by simp;omega);have:ld.data.toList.length=ld.size:=by simp
  simp only[ve,aq];omega
 have HL:=Hd l3;clear uS iM hid hn fG l3;go_enter func75,ntmps75;go_wp2;change bP _ (aQ 1 pb1 true) _ _ _;refine jjz (bx:=w.heap.size) (kd:=kd) (sh:=sh) (id:=id) (n:=n) (ld:=ld) (s1:=⟨(vz id).toArray⟩) (s2:=⟨(vz n).toArray⟩) (s3:=⟨(ve ld.data.toList).toArray⟩) rfl rfl rfl (by go_simp) (by go_simp) (by go_simp) (by go_simp) (by go_simp) H1.1 H1.2.1 rfl (by simpa[bi]using EF H1.2.2.1) (by simpa[bi]using EF H1.2.2.2.1) (by simpa[bi]using HL.o) (λW=>AJ id H1.2.2.1) (λW=>AJ n H1.2.2.2.1) (λW=>Ux ld (by have:=H1.2.2.2.2;omega)) ?_;intro y w1 _ y3 gK;rw[ji7];replace y3:y 3=.string (frX kd sh id n ld):=y3;rw[y3];have DI:=Hd (((zk w.heap.size w).alloc (ji _) _).trans (gK.mono (by simp)));clear gK y3;obtain⟨X,hX⟩:∃X,frX kd sh id n ld=X:=⟨_,rfl⟩
 rw[hX]at HB HX;rw[hX];clear hX;have HC:=Hd (I7 X.data.toList);go_wp2_with (go_at_call 117;refine(Rn X (by have:=HX.o;omega)).mono ?_;rintro e w2 ⟨rfl,rfl⟩;generalize chk X.data.toList=C at *; have vZ:=q2n (C:=C) w2;have eU:=HX.o)
 go_ret;exact⟨by rw[<-HB.o];rfl,DI.trans ((zk _ _).alloc DI.size _)⟩
section
variable {e:bQ->ah} {o:Oper} {p q:bQ} {v:ah} {g f k:Nat} {w:aa}
theorem run_move (h:o.op=.move p) (hp:e p=v):(aW e o).run prog w=.ok (.value v) w:=by
 unfold aW;simp[go_sem,h,hp]
theorem y7 {a:Addr} (h:o.op=.nilCheck p) (hp:e p=.pointer (some a)):(aW e o).run prog w=.ok (.value (.pointer (some a))) w:=by
 unfold aW;simp[go_sem,h,hp]
theorem Nf (f:Nat) (hf:f<3) (h:o.op=.fieldAddr 80 p f) (hp:e p=.pointer (some ⟨g,k,none⟩)):(aW e o).run prog w=.ok (.value (.pointer (some ⟨g,k+f,none⟩))) w:=by
 have hu:=underlying80;have Dr:f=0\/f=1\/f=2:=by omega
 have Qh:∀j,(⟨g,k,none⟩:Addr).add j=⟨g,k+j,none⟩:=λj=>bh ..;unfold aW;rcases Dr with rfl|rfl|rfl<;>simp[go_sem,h,hp,hu,Qh]
end
theorem IW (y:Nat->ah):lay 106 y=#[y 0,y 1,y 2,y 3,y 4,y 5,y 6,y 7,y 8,y 9,y 10,y 11,y 12,y 13,y 14,y 15,y 16,y 17,y 18,y 19,y 20,y 21,y 22,y 23,y 24,y 25,y 26,y 27,y 28,y 29,y 30,y 31,y 32,y 33,y 34,y 35,y 36,y 37,y 38,y 39,y 40,y 41,y 42,y 43,y 44,y 45,y 46,y 47,y 48,y 49,y 50,y 51,y 52,y 53,y 54,y 55,y 56,y 57,y 58,y 59,y 60,y 61,y 62,y 63,y 64,y 65,y 66,y 67,y 68,y 69,y 70,y 71,y 72,y 73,y 74,y 75,y 76,y 77,y 78,y 79,y 80,y 81,y 82,y 83,y 84,y 85,y 86,y 87,y 88,y 89,y 90,y 91,y 92,y 93,y 94,y 95,y 96,y 97,y 98,y 99,y 100,y 101,y 102,y 103,y 104,y 105]:=rfl
def q62:Code->Code
 |.seq _ b=>b
 |c=>c
noncomputable def cg1:Array Oper:=match Tryz.f40.body with
 |some (.seq _ (.seq _ (.seq _ (.seq _ (.seq _ (.seq _ (.seq _ (.seq (.seq _ (.cond _ a _)) _))))))))=>rg a
 |_=>#[]
theorem jdh {K:Act->aa->Prop} {t:Array ah} (h:t.size=n) (g:K ⟨lay n λj=>t.getD j bC,[]⟩ w):K ⟨t,[]⟩ w:=by
 have e:lay n (λj=>t.getD j bC)=t:=by
  apply Array.ext
  ·simp[lay,h]
  ·intro i h1 h2;simp[lay,Array.getD,h2]
 rwa [e]at g
section
variable {cl cb n x:Nat} {pv cv:ah} {ld:ByteArray} {m:Mv} {k v:ByteArray} {g:Bool}
theorem MX.appO {gb off cap H:Nat} {c:Chg} (h:MX x n pv cv ld m w) (o:Obj) (NW:w1=(w.alloc o).drew) (hg:w1.grownBy w3 cv.ownBlock) (hr:za w3 87 3 (.slice (some ⟨gb,off,none⟩) (m.cs.length+1) cap) (m.cs.length+1) (kV m.cs++[sv c.k,sv c.v,.bool c.g])) (jG:cv.ownBlock=some gb\/gb=H) (hH:w1.heap.size=H):
  w3.cell? ⟨x,4,none⟩=some cv/\w3.frozen? ⟨x,4,none⟩=false/\(MX x n pv (.slice (some ⟨gb,off,none⟩) (m.cs.length+1) cap) ld {m with cs:=m.cs++[c]} (w3.setCell ⟨x,4,none⟩ (.slice (some ⟨gb,off,none⟩) (m.cs.length+1) cap)))/\
   (∀b,(Value.slice (some ⟨gb,off,none⟩) (m.cs.length+1) cap).ownBlock=some b->cv.ownBlock=some b\/w.heap.size<=b)/\But (λq=>q=x\/cv.ownBlock=some q) w (w3.setCell ⟨x,4,none⟩ (.slice (some ⟨gb,off,none⟩) (m.cs.length+1) cap)):=by
 have dY:=h.lt;have hw:But (λ_=>False) w w1:=by
  subst NW;exact⟨by simp,λb hb _=>aU w o hb,rfl,rfl⟩
 have eU:=hw.size;have eB:some x≠cv.ownBlock:=λe=>by
  obtain⟨cc,hc⟩:=za.ty h.r e.symm;rw[h.b]at hc;cases hc
 have b3:But (λb=>cv.ownBlock=some b) w w3:=⟨by have:=hg.size;omega,λb hb hn=>(hg.block b (by omega) λe=>hn e.symm).trans (hw.keep b hb id),hg.os.trans hw.os,hg.output.trans hw.output⟩
 have fO:=(b3.keep x dY λe=>eB e.symm).trans h.b;have hgx:gb≠x:=λe=>by
  rcases jG with e2|e2
  ·exact eB (by rw[e2,e])
  ·omega
 refine⟨by simp[ag,fO,qh],by simp[aF,fO],⟨(xhs w3 x 4 _ _ _ fO).trans rfl,?_⟩,λb hb=>?_,But.setCell (b3.mono λb e=>.inr e) (.inl rfl) 4 _⟩
 ·unfold qA;rw[show({m with cs:=m.cs++[c]}:Mv).cs=m.cs++[c]from rfl,aq,show kV (m.cs++[c])=kV m.cs++[sv c.k,sv c.v,.bool c.g] by simp[kV]];exact hr.block λb hb=>xho _ _ _ _ λe=>hgx ((xoi hb).trans e)
 ·obtain rfl:=xoi hb;exact jG.imp id λe=>by show w.heap.size<=gb;omega
theorem LD {t:Array ah} {K:Act->aa->Prop} {F:Func} {PP:bK->aa->Prop} (ht:t.size=106) (h3:t.getD 3 bC=.pointer (some ⟨cb,0,none⟩)) (h7:t.getD 7 bC=.pointer (some ⟨cl,1+n*3,none⟩))
  (hx:MX x n pv cv ld m w) (hv:w.cell? ⟨cl,1+n*3+2,none⟩=some (.pointer (some ⟨x,0,none⟩))) (c0:w.cell? ⟨cb,0,none⟩=some (.string k)) (c1:w.cell? ⟨cb,1,none⟩=some (.string v)) (c2:w.cell? ⟨cb,2,none⟩=some (.bool g)) (mZ:cv.ownBlock≠some cl) (gH:m.cs.length<=1073741820)
  (hQ:∀y w' cv',MX x n pv cv' ld {m with cs:=m.cs++[II k v g]} w'->(∀b,cv'.ownBlock=some b->cv.ownBlock=some b\/w.heap.size<=b)->But (λq=>q=x\/cv.ownBlock=some q) w w'->K ⟨lay 106 y,[]⟩ w'):(aQ 16 cg1 true).wp prog (Exit.then K (bodyPost prog F PP)) ⟨t,[]⟩ w:=by
 have e:lay 106 (λj=>t.getD j bC)=t:=by
  apply Array.ext
  ·simp[lay,ht]
  ·intro i h1 h2;simp[lay,Array.getD,h2]
 rw[<-e];clear e;obtain⟨x3,lJ⟩:∃x3:Nat->ah,(λj=>t.getD j bC)=x3:=⟨_,rfl⟩
 have h3:x3 3=.pointer (some ⟨cb,0,none⟩):=by rw[<-lJ];exact h3
 have h7:x3 7=.pointer (some ⟨cl,1+n*3,none⟩):=by rw[<-lJ];exact h7
 rw[lJ];clear lJ;obtain⟨x3,rfl⟩:=qb h3;obtain⟨x3,rfl⟩:=qb (x:=x3) (j:=7) (v:=.pointer (some ⟨cl,1+n*3,none⟩)) h7;clear h3 h7;have HX:=Hd hx;have HQ:=Hd hQ;have m4:=hx.cells.1;have l1:=hx.lt;have l2:=xbl w _ hv;have l3:=xbl w _ c0;obtain⟨ci,i1,i2,i3,i4⟩:=Mc;have HI:=Hd (ac i1 (ac i2 (ac i3 i4)));clear hx hQ i1 i2 i3 i4;rw[IW];unfold cg1;simp only[Tryz.f40,Option.getD,rg,q62,upd,Nat.reduceEqDiff,if_true,if_false];go_region_law (refine qkx _ rfl (.tmp 100) (.tmp 102) 130 rfl 87 ci _ 3 40 underlying130 HI.1 HI.2.1 HI.2.2.1 HI.2.2.2 rfl cv m.cs.length (kV m.cs) rfl (HX.r.block λb hb=>aU w _ (za.lt HX.r hb)) ⟨w.heap.size,0,none⟩ 1 [.string k,.string v,.bool g] rfl rfl (cells3 w _ _ _ _) (by intro u hu;simp at hu;rcases hu with rfl|rfl|rfl<;>rfl) (by unfold aE;omega) (by omega) _ rfl ?_;intro gb off cap w3 hr hg jG;rw[<-qC k,<-qC v]at hr;have H3:=Hd (MX.appO (c:=II k v g) HX.o _ rfl hg hr jG rfl);obtain⟨d3,e3,_⟩:=H3.o;have f3:=(xcb (a:=⟨cl,1+n*3+2,none⟩) (w:=w) ((hg.block cl (by simp;exact Nat.lt_succ_of_lt l2) λe=>mZ e.symm).trans (aU w _ l2))).trans hv;clear hr hg jG);all_goals exact jdh rfl (HQ.o _ _ _ H3.2.2.1 H3.2.2.2.1 H3.2.2.2.2)
end
end Go.Proofs.YtkpekiajdlolnabGreat.Ph
namespace Go.Proofs
open Go.RowKit Go.Maps Go.Sort Go.Shelf
def Tryz.keysOf_ren:Go.Shelf.Ren:=⟨fun|7=>91|10=>124|n=>n,fun|23=>140|26=>9|3=>146|28=>173|0=>0|27=>172|33=>28|4=>4|n=>n,fun|n=>n⟩
theorem Tryz.keysOf:Go.Proofs.SlLaysZ.n7 prog Tryz.keysOf_ren:={
 mixed:=by kernel_rfl
 f7:=⟨Tryz.f91.name,by decide,func91.trans (congrArg some (by kernel_rfl))⟩
 f10:=⟨Tryz.f124.name,by decide,func124.trans (congrArg some (by kernel_rfl))⟩
 t0:=underlying0
 a0:=Tryz.isAgg0
 z0:=Tryz.sizeOf0
 v0:=Tryz.zeroValue0
 t4:=underlying4
 a4:=Tryz.isAgg4
 z4:=Tryz.sizeOf4
 v4:=Tryz.zeroValue4
 t23:=underlying140
 a23:=Tryz.isAgg140
 z23:=Tryz.sizeOf140
 v23:=Tryz.zeroValue140
 t26:=underlying9
 a26:=Tryz.isAgg9
 z26:=Tryz.sizeOf9
 v26:=Tryz.zeroValue9
 t27:=underlying172
 a27:=Tryz.isAgg172
 z27:=Tryz.sizeOf172
 v27:=Tryz.zeroValue172
 t28:=underlying173
 a28:=Tryz.isAgg173
 z28:=Tryz.sizeOf173
 v28:=Tryz.zeroValue173
 t33:=underlying28
 a33:=Tryz.isAgg28
 z33:=Tryz.sizeOf28
 v33:=Tryz.zeroValue28}
def Tryz.sortedOf_ren:Go.Shelf.Ren:=⟨fun|6=>90|8=>122|9=>123|11=>135|13=>137|12=>136|23=>151|24=>152|14=>142|15=>143|16=>144|17=>145|18=>146|19=>147|20=>148|21=>149|22=>150|25=>153|26=>154|27=>155|28=>156|29=>157|30=>158|31=>159|n=>n,fun|26=>9|28=>173|24=>33|0=>0|3=>3|37=>165|48=>120|50=>117|4=>4|40=>225|39=>224|45=>88|5=>5|9=>9|51=>233|55=>236|57=>238|58=>239|33=>28|n=>n,fun|n=>n⟩
theorem Tryz.sortedOf:Go.Proofs.SlLaysZ.n6 prog Tryz.sortedOf_ren:={
 mixed:=by kernel_rfl
 f6:=⟨Tryz.f90.name,by decide,func90.trans (congrArg some (by kernel_rfl))⟩
 f8:=⟨Tryz.f122.name,by decide,func122.trans (congrArg some (by kernel_rfl))⟩
 f11:=⟨Tryz.f135.name,by decide,func135.trans (congrArg some (by kernel_rfl))⟩
 t0:=underlying0
 a0:=Tryz.isAgg0
 z0:=Tryz.sizeOf0
 v0:=Tryz.zeroValue0
 t24:=underlying33
 a24:=Tryz.isAgg33
 z24:=Tryz.sizeOf33
 v24:=Tryz.zeroValue33
 t26:=underlying9
 a26:=Tryz.isAgg9
 z26:=Tryz.sizeOf9
 v26:=Tryz.zeroValue9
 t28:=underlying173
 a28:=Tryz.isAgg173
 z28:=Tryz.sizeOf173
 v28:=Tryz.zeroValue173
 i26:=by kernel_rfl}
def Tryz.sortOf_ren:Go.Shelf.Ren:=⟨fun|6=>123|8=>137|9=>136|19=>151|20=>152|21=>142|22=>143|23=>144|24=>145|25=>146|26=>147|27=>148|28=>149|29=>150|36=>153|31=>154|32=>155|37=>156|38=>157|39=>158|41=>159|n=>n,fun|27=>33|29=>9|3=>3|32=>165|26=>33|0=>0|44=>120|46=>117|4=>4|36=>225|35=>224|41=>88|5=>5|9=>9|53=>233|57=>236|63=>238|64=>239|n=>n,fun|n=>n⟩
theorem Tryz.sortOf:Go.Proofs.SlLaysM.n6 prog Tryz.sortOf_ren:={
 mixed:=by kernel_rfl
 f6:=⟨Tryz.f123.name,by decide,func123.trans (congrArg some (by kernel_rfl))⟩
 f8:=func137.trans (congrArg some (by kernel_rfl))
 f9:=⟨Tryz.f136.name,by decide,func136.trans (congrArg some (by kernel_rfl))⟩
 f19:=func151.trans (congrArg some (by kernel_rfl))
 f20:=func152.trans (congrArg some (by kernel_rfl))
 f21:=⟨Tryz.f142.name,by decide,func142.trans (congrArg some (by kernel_rfl))⟩
 f22:=⟨Tryz.f143.name,by decide,func143.trans (congrArg some (by kernel_rfl))⟩
 f23:=⟨Tryz.f144.name,by decide,func144.trans (congrArg some (by kernel_rfl))⟩
 f24:=⟨Tryz.f145.name,by decide,func145.trans (congrArg some (by kernel_rfl))⟩
 f25:=⟨Tryz.f146.name,by decide,func146.trans (congrArg some (by kernel_rfl))⟩
 f26:=⟨Tryz.f147.name,by decide,func147.trans (congrArg some (by kernel_rfl))⟩
 f27:=⟨Tryz.f148.name,by decide,func148.trans (congrArg some (by kernel_rfl))⟩
 f28:=⟨Tryz.f149.name,by decide,func149.trans (congrArg some (by kernel_rfl))⟩
 f29:=⟨Tryz.f150.name,by decide,func150.trans (congrArg some (by kernel_rfl))⟩
 f31:=func154.trans (congrArg some (by kernel_rfl))
 f32:=func155.trans (congrArg some (by kernel_rfl))
 f36:=⟨Tryz.f153.name,by decide,func153.trans (congrArg some (by kernel_rfl))⟩
 f37:=⟨Tryz.f156.name,by decide,func156.trans (congrArg some (by kernel_rfl))⟩
 f38:=⟨Tryz.f157.name,by decide,func157.trans (congrArg some (by kernel_rfl))⟩
 f39:=⟨Tryz.f158.name,by decide,func158.trans (congrArg some (by kernel_rfl))⟩
 f41:=⟨Tryz.f159.name,by decide,func159.trans (congrArg some (by kernel_rfl))⟩
 t0:=underlying0
 a0:=Tryz.isAgg0
 z0:=Tryz.sizeOf0
 v0:=Tryz.zeroValue0
 t3:=underlying3
 a3:=Tryz.isAgg3
 z3:=Tryz.sizeOf3
 v3:=Tryz.zeroValue3
 t4:=underlying4
 a4:=Tryz.isAgg4
 z4:=Tryz.sizeOf4
 v4:=Tryz.zeroValue4
 t5:=underlying5
 a5:=Tryz.isAgg5
 z5:=Tryz.sizeOf5
 v5:=Tryz.zeroValue5
 t9:=underlying9
 a9:=Tryz.isAgg9
 z9:=Tryz.sizeOf9
 v9:=Tryz.zeroValue9
 t26:=underlying33
 a26:=Tryz.isAgg33
 z26:=Tryz.sizeOf33
 v26:=Tryz.zeroValue33
 t27:=underlying33
 a27:=Tryz.isAgg33
 z27:=Tryz.sizeOf33
 v27:=Tryz.zeroValue33
 t29:=underlying9
 a29:=Tryz.isAgg9
 z29:=Tryz.sizeOf9
 v29:=Tryz.zeroValue9
 t32:=underlying165
 a32:=Tryz.isAgg165
 z32:=Tryz.sizeOf165
 v32:=Tryz.zeroValue165
 t35:=underlying224
 a35:=Tryz.isAgg224
 z35:=Tryz.sizeOf224
 v35:=Tryz.zeroValue224
 t36:=underlying225
 a36:=Tryz.isAgg225
 z36:=Tryz.sizeOf225
 v36:=Tryz.zeroValue225
 t41:=underlying88
 a41:=Tryz.isAgg88
 z41:=Tryz.sizeOf88
 v41:=Tryz.zeroValue88
 t44:=underlying120
 a44:=Tryz.isAgg120
 z44:=Tryz.sizeOf120
 v44:=Tryz.zeroValue120
 t46:=underlying117
 a46:=Tryz.isAgg117
 z46:=Tryz.sizeOf117
 v46:=Tryz.zeroValue117
 t53:=underlying233
 a53:=Tryz.isAgg233
 z53:=Tryz.sizeOf233
 v53:=Tryz.zeroValue233
 t57:=underlying236
 a57:=Tryz.isAgg236
 z57:=Tryz.sizeOf236
 v57:=Tryz.zeroValue236
 t63:=underlying238
 a63:=Tryz.isAgg238
 z63:=Tryz.sizeOf238
 v63:=Tryz.zeroValue238
 t64:=underlying239
 a64:=Tryz.isAgg239
 z64:=Tryz.sizeOf239
 v64:=Tryz.zeroValue239}
theorem Tryz.sorts_of (m:Nat):AnyZ.SortsIn prog Tryz.sortedOf_ren Fence.wide m:=
 ⟨λblk off cap ss W hH hblk eU=>callsIn_wide.2 (AnyM.slices_Sort_string Tryz.sortOf blk off cap ss W hH hblk eU),
  λp cap W=>callsIn_wide.2 (AnyM.slices_Sort_string_none Tryz.sortOf p cap W)⟩
theorem Tryz.maps_keys (mb:Option Nat) (W:aa):aD prog 91 #[.map mb] W λe w'=>e=.returned (.func (.func 124) #[] #[.pointer (some ⟨W.heap.size,0,none⟩)])/\w'=W.alloc (.cells #[.map mb] 140):=
 callsIn_wide.1 (AnyZ.keys_in Tryz.keysOf Fence.wide 5 trivial rfl mb W)
theorem Tryz.slices_sorted {H:Type} (b nn:Nat) (D0:DataW H) (R:ah->Option (DataW H×List MemPlace)) (w:aa) (fD:w.ownsMap prog 9 R b nn D0) (PV:Maps.size D0<=aE) (jS:Maps.size D0*16<=140737488355328):
  aD prog 90 #[.func (.func 124) #[] #[.pointer (some ⟨w.heap.size,0,none⟩)]] (w.alloc (.cells #[.map (some b)] 140)) λe w'=>∃(v:ah) (ss:List (List UInt8)),e=.returned v/\ss.Perm (strKeys D0)/\
   w'.ownsRow (w.alloc (.cells #[.map (some b)] 140)).heap.size 9 1 v ss.length ((ss.mergeSort (λx y=>decide (x<=y))).map encStr)/\(v=.slice none 0 0↔ss=[])/\au (w.alloc (.cells #[.map (some b)] 140)).heap.size (w.alloc (.cells #[.map (some b)] 140)) w':=by
 refine(callsIn_wide (n:=5)).1 ?_;have jB:=fD.lt;have Px:SeqGives Fence.wide 2 prog 124 #[.pointer (some ⟨w.heap.size,0,none⟩)] encStr (λss=>ss.Perm (strKeys D0)) (Maps.size D0) (w.alloc (.cells #[.map (some b)] 140)):=
  AnyZ.keys_gives (ρ:=Tryz.keysOf_ren) {Tryz.keysOf with} Fence.wide _ trivial rfl (by omega) w.heap.size b nn D0 _ (by simp) (by simp) (by
   obtain⟨es,clock,hb,Ft,hs,hD⟩:=fD
   exact⟨es,clock,(Below.heap_alloc _ _ b jB).trans hb,Ft,hs,hD⟩)
 exact AnyZ.sorted_in Tryz.sortedOf Fence.wide 5 trivial trivial trivial trivial rfl (by omega) (Tryz.sorts_of _) (enters_of func123 (by kernel_rfl) rfl) 124 #[.pointer (some ⟨w.heap.size,0,none⟩)] trivial (enters_of func124 (by kernel_rfl) rfl) _ _ PV jS _ Px
end Go.Proofs
namespace Go.Proofs.YtkpekiajdlolnabGreat
open Go.RowKit Go.Maps Go.Sort
theorem q6x (L:KV):strKeys (DM L)=L.map (·.1):=by
 show List.map _ (List.map _ L)=_;rw[List.map_map];rfl
theorem jhd (a b:Bs):aw a b=decide (a<b):=by rw[<-CF,bytesLess_eq]
theorem qsf (h:zm L) {ss:List Bs} (hp:ss.Perm (L.map (·.1))):ss.mergeSort (λx y=>decide (x<=y))=L.map (·.1):=by
 rw[mergeSort_of_perm hp];refine List.mergeSort_of_pairwise ?_;rw[List.pairwise_map];refine List.Pairwise.imp ?_ h;intro a b gG;rw[jhd]at gG;exact xdt (List.le_of_lt (of_decide_eq_true gG))
theorem q1o (hm:jv w mb L) (s:ByteArray) (hs:s.size<=aE):(Instr.lookup 140 (.map (some mb)) (.string s) false).run prog w=.ok (.agg #[sv ((jb L s.data.toList).getD [])]) w:=by
 have fD:=hm;obtain⟨v,ps,eG,hv⟩:=fD.lookup (string_keyed underlying9) underlying140 (QL w) (zd:=ev []) (zp:=[]) rfl (IX s hs);rw[Sq]at hv;have:Rv v=some (ev ((jb L s.data.toList).getD []),ps):=by
  rw[hv];cases jb L s.data.toList<;>rfl
 rw[eG,QJ this]
theorem Tt (pv:ByteArray) (w:aa):(Instr.field 146 (.agg #[.string pv]) 0).run prog w=.ok (.string pv) w:=by kernel_rfl
theorem ji6 (h:zm L) (hp:L[j]?=some p):jb L p.1=some p.2:=by
 have wH:p∈L:=aH hp;clear hp;unfold jb;induction L with
 |nil=>cases wH
 |cons q L ih=>
  obtain⟨h1,h2⟩:=bF.1 h;rw[List.find?_cons];rcases bB.1 wH with rfl|hm
  ·simp
  ·rw[FI (h1 p hm)];exact ih h2 hm
def MP (w:aa) (L:KV) (e:bK) (w':aa):Prop:= ∃v,e=.returned v/\jU w' w.heap.size v L/\au w.heap.size w w'
theorem Uv (f:Bs×Bs->Bool) (hp:L[j]?=some p):(L.take (j+1)).filter f=(L.take j).filter f++(if f p then[p]else[]):=by
 obtain⟨hj,rfl⟩:=am.1 hp;rw[aV hj,List.filter_append,List.filter_cons,List.filter_nil]
section
variable {w:aa} {db mb:Nat} {L:KV}
structure PrW (W:aa) (db mb:Nat) (L:KV) (s t:Bs) (j:Nat) (out:ah) (w:aa):Prop where
 row:jU w W.heap.size out ((L.take j).filter (inB s t))
 below:au W.heap.size W w
theorem PrW.app {W:aa} {s t:Bs} {out:ah} (h:PrW W db mb L s t j out w) (hp:L[j]?=some p) (ic:inB s t p=true) {v':ah} (gK:au W.heap.size W w1) (Bl:w1.ownsRow W.heap.size 74 2 out ((L.take j).filter (inB s t)).length (flat ((L.take j).filter (inB s t)))) (hg:w1.grownBy w2 out.ownBlock)
  (hr:w2.ownsRow W.heap.size 74 2 v' (((L.take j).filter (inB s t)).length+1) (flat ((L.take j).filter (inB s t))++[sv p.1,sv p.2])) (ha:l6 w2 v'):PrW W db mb L s t (j+1) v' w2:=by
 refine⟨?_,Be gK hg Bl (ji _) gK.size⟩;rw[Uv _ hp,ic,if_pos rfl];exact Jb hr ha (ji _) (by rw[yY];rfl)
theorem PrW.skip {W:aa} {s t:Bs} {out:ah} (h:PrW W db mb L s t j out w) (hp:L[j]?=some p) (ic:inB s t p=false):PrW W db mb L s t (j+1) out w:=by
 refine⟨?_,h.below⟩;rw[Uv _ hp,ic];simpa using h.row
theorem sorted_at (hm:jv w mb L) (ou:zm L) (hL:L.length<=12):
  aD prog 90 #[.func (.func 124) #[] #[.pointer (some ⟨w.heap.size,0,none⟩)]] (w.alloc (.cells #[.map (some mb)] 140)) λe w'=>
   ((L=[]/\e=.returned (.slice none 0 0))\/∃kb cap,L≠[]/\e=.returned (.slice (some ⟨kb,0,none⟩) L.length cap)/\∀j (p:Bs×Bs),L[j]?=some p->w'.cell? ⟨kb,j,none⟩=some (sv p.1))/\au w.heap.size w w':=by
 refine(Tryz.slices_sorted mb L.length (DM L) Rv w hm (by rw[Ja];unfold aE;omega) (by rw[Ja];omega)).mono ?_;rintro e w' ⟨kv,ss,rfl,hp,hr,hn,hb⟩;have fQ:au w.heap.size w w':=((zk _ w).alloc (ji _) _).trans (hb.mono (by simp));rw[q6x]at hp;have hlen:ss.length=L.length:=by rw[hp.length_eq,List.length_map]
 rw[qsf ou hp]at hr;refine⟨?_,fQ⟩;by_cases he:L=[]
 ·have:ss=[]:=bg (by rw[hlen,he];rfl);exact .inl ⟨he,by rw[hn.2 this]⟩
 ·rcases hr.2 with⟨_,hz⟩|⟨kb,cap,cur,pF,_⟩
  ·exact absurd (bg (by omega)) he
  ·refine .inr ⟨kb,cap,he,by rw[pF,hlen],λj p hj=>?_⟩;have h1:((L.map (·.1)).map encStr)[j]?=some (sv p.1):=by rw[bI,bI,hj];rfl
   have h2:=hr.cells (g:=kb) (by rw[pF];rfl) _ _ h1;rwa [bh,aR]at h2
theorem YD (hd:w.cell? ⟨db,0,none⟩=some (.map (some mb))) (hm:jv w mb []) (s t:ByteArray):
  aD prog 56 #[.pointer (some ⟨db,0,none⟩),.string s,.string t] w (MP w []):=by
 have HS:=Hd (sorted_at hm List.Pairwise.nil (by decide));clear hm;go_enter func56,ntmps56;go_wp2_with (first
  |(go_at_call 91;refine(Tryz.maps_keys _ _).mono ?_;rintro e w' ⟨rfl,rfl⟩)
  |(go_at_call 90;refine(HS.mono λe w' h=>(show(e=.returned (.slice none 0 0))/\au w.heap.size w w' from⟨h.1.elim (·.2) (λ⟨_,_,h,_⟩=>(h rfl).elim),h.2⟩)).mono ?_;rintro e w2 ⟨rfl,fJ⟩;have HB:=Hd fJ;clear fJ))
 refine wp_loop_rounds 1 ?_;rw[rounds_succ];go_wp2;go_ret;exact⟨_,rfl,⟨aL _ _ _ _,l6.nil _⟩,HB.o⟩
theorem ZG (eB:L≠[]) (hd:w.cell? ⟨db,0,none⟩=some (.map (some mb))) (hm:jv w mb L) (ou:zm L) (hL:L.length<=12) (iQ:∀p∈L,p.1.length<=aE) (s t:ByteArray):
  aD prog 56 #[.pointer (some ⟨db,0,none⟩),.string s,.string t] w (MP w (L.filter (inB s.data.toList t.data.toList))):=by
 have HS:=Hd (sorted_at hm ou hL);have HM:=Hd hm;have HR:=Hd ou;have HK:=Hd iQ;have HN:=Hd eB;clear hm ou iQ eB;go_enter func56,ntmps56;go_wp2_with (first
  |(go_at_call 91;refine(Tryz.maps_keys _ _).mono ?_;rintro e w' ⟨rfl,rfl⟩)
  |(go_at_call 90;refine(HS.mono λe w' h=>(show(∃kb cap,e=.returned (.slice (some ⟨kb,0,none⟩) L.length cap)/\∀j (p:Bs×Bs),L[j]?=some p->w'.cell? ⟨kb,j,none⟩=some (sv p.1))/\au w.heap.size w w' from⟨h.1.elim (λh=>(HN.o h.1).elim) (λ⟨kb,cap,_,h⟩=>⟨kb,cap,h⟩),h.2⟩)).mono ?_;rintro e w2 ⟨⟨kb,cap,rfl,xH⟩,fJ⟩;have HC:=Hd xH;have HB:=Hd fJ;clear xH fJ))
 go_loopw [7,17] (λout i wr=>∃j:Nat,j<=L.length/\i=.int .i64 j/\Hid (PrW w2 db mb L s.data.toList t.data.toList j out wr)) (λ_ i _=>L.length-(intOf i).toNat);case atStart=>exact⟨0,xzl _,rfl,Hd ⟨⟨aL _ _ _ _,l6.nil _⟩,zk _ _⟩⟩
 case round=>
  obtain⟨j,hj,rfl,HP⟩:=hrel;have XF:Hid (((L.take j).filter (inB s.data.toList t.data.toList)).length+1<=1073741824):=by
   have h1:=aX (inB s.data.toList t.data.toList) (L.take j);rw[ax]at h1;show _<=_;omega
  by_cases jO:j<L.length
  ·obtain⟨p,hp⟩:∃p,L[j]?=some p:=⟨_,ay jO⟩
   have pI:=HC.o j p hp;have xH:=(HP.below.cell (xbl _ _ pI)).trans pI;have sG:au w.heap.size w wr:=HB.trans (HP.below.mono HB.size);have hdr:=(sG.cell (xbl _ _ hd)).trans hd;have wH:p∈L:=aH hp;have oW:=q1o (HM.block (sG.block mb HM.lt)) ⟨p.1.toArray⟩ (by have:=HK.o p wH;simpa[bi]using this);rw[show(⟨p.1.toArray⟩:ByteArray).data.toList=p.1 by simp,ji6 HR.o hp,Option.getD_some]at oW;have e1:aI (⟨p.1.toArray⟩:ByteArray).toList s.toList=aw p.1 s.data.toList:=by rw[CF,ai,ai]
   have e2:aI (⟨p.1.toArray⟩:ByteArray).toList t.toList=aw p.1 t.data.toList:=by rw[CF,ai,ai]
   have e3:t.toList.isEmpty=t.data.toList.isEmpty:=by rw[ai]
   have Aq:inB s.data.toList t.data.toList p=(!aI (⟨p.1.toArray⟩:ByteArray).toList s.toList&&(t.toList.isEmpty||aI (⟨p.1.toArray⟩:ByteArray).toList t.toList)):=by rw[e1,e2,e3];rfl
   clear pI sG wH e1 e2 e3;cases g1:aI (⟨p.1.toArray⟩:ByteArray).toList s.toList
   ·cases g2:t.toList.isEmpty
    ·cases g3:aI (⟨p.1.toArray⟩:ByteArray).toList t.toList
     ·have ic:inB s.data.toList t.data.toList p=false:=by rw[Aq,g1,g2,g3];rfl
      clear Aq;have O8:=Hd (HP.skip hp ic);unfold sv at xH oW;generalize (⟨p.1.toArray⟩:ByteArray)=pk at*;generalize (⟨p.2.toArray⟩:ByteArray)=pv at*;clear ic hp;go_wp2;go_roundw;case rel=>exact⟨j+1,by omega,rfl,O8.o⟩
      case measure=>simp[intOf];omega
     ·have ic:inB s.data.toList t.data.toList p=true:=by rw[Aq,g1,g2,g3];rfl
      clear Aq;have FB:=Hd (λv' w1 w3=>HP.app (v':=v') (w1:=w1) (w2:=w3) hp ic);unfold sv at FB xH oW;generalize (⟨p.1.toArray⟩:ByteArray)=pk at*;generalize (⟨p.2.toArray⟩:ByteArray)=pv at*;clear ic hp;have hfd:=Tt pv;go_wp2_with (at_builtin;refine yo (v:=u7) rfl (.tmp 33) (.tmp 43) rfl rfl rfl (HP.row.1.alloc _) (HP.row.2.alloc _) (Src.one wr pk pv _) XF.o (xlt HP.below.size (by simp)) ?_;intro v3 w3 ig rV sF;have Pf:=Hd (FB.out v3 _ w3 (HP.below.alloc HP.below.size _) (HP.row.1.alloc _) sF ig rV);clear ig rV sF)
      go_roundw;case rel=>exact⟨j+1,by omega,rfl,Pf⟩
      case measure=>simp[intOf];omega
    ·have ic:inB s.data.toList t.data.toList p=true:=by rw[Aq,g1,g2];rfl
     clear Aq;have FB:=Hd (λv' w1 w3=>HP.app (v':=v') (w1:=w1) (w2:=w3) hp ic);unfold sv at FB xH oW;generalize (⟨p.1.toArray⟩:ByteArray)=pk at*;generalize (⟨p.2.toArray⟩:ByteArray)=pv at*;clear ic hp;have hfd:=Tt pv;go_wp2_with (at_builtin;refine yo (v:=u7) rfl (.tmp 33) (.tmp 43) rfl rfl rfl (HP.row.1.alloc _) (HP.row.2.alloc _) (Src.one wr pk pv _) XF.o (xlt HP.below.size (by simp)) ?_;intro v3 w3 ig rV sF;have Pf:=Hd (FB.out v3 _ w3 (HP.below.alloc HP.below.size _) (HP.row.1.alloc _) sF ig rV);clear ig rV sF)
     go_roundw;case rel=>exact⟨j+1,by omega,rfl,Pf⟩
     case measure=>simp[intOf];omega
   ·have ic:inB s.data.toList t.data.toList p=false:=by rw[Aq,g1];rfl
    clear Aq;have O8:=Hd (HP.skip hp ic);unfold sv at xH oW;generalize (⟨p.1.toArray⟩:ByteArray)=pk at*;generalize (⟨p.2.toArray⟩:ByteArray)=pv at*;clear ic hp;go_wp2;go_roundw;case rel=>exact⟨j+1,by omega,rfl,O8.o⟩
    case measure=>simp[intOf];omega
  ·obtain rfl:j=L.length:=by omega
   have HE:=Hd HP.row;rw[bM]at HE;go_wp2;go_ret;exact⟨_,rfl,Jb HE.1 HE.2 HB.size rfl,HB.trans (HP.below.mono HB.size)⟩
theorem QY (hd:w.cell? ⟨db,0,none⟩=some (.map (some mb))) (hm:jv w mb L) (ou:zm L) (hL:L.length<=12) (iQ:∀p∈L,p.1.length<=aE) (s t:ByteArray):
  aD prog 56 #[.pointer (some ⟨db,0,none⟩),.string s,.string t] w (MP w (L.filter (inB s.data.toList t.data.toList))):=by
 by_cases eB:L=[]
 ·subst eB;exact YD hd hm s t
 ·exact ZG eB hd hm ou hL iQ s t
end
end Go.Proofs.YtkpekiajdlolnabGreat
namespace Go.Proofs.YtkpekiajdlolnabGreat.Ph
open Go.Conc Go.ConcN Go.RowKit Go.Maps Go.Conc.Lib Go Sim
section
variable {e:bQ->ah} {o:Oper} {p q r s:bQ} {v:ah} {g f k:Nat} {w:aa} {i j l:Int} {sa:Option Addr} {n cp:Nat}
theorem q4b (h:o.op=.fieldAddr 83 p 3) (hp:e p=.pointer (some ⟨g,0,none⟩)):(aW e o).run prog w=.ok (.value (.pointer (some ⟨g,14,none⟩))) w:=by
 have hu:=underlying83;unfold aW;simp[go_sem,h,hp,hu]
theorem Zx (h:o.op=.build 135 #[(0,p),(1,q),(2,r),(3,s)]) (hp:e p=.int .i64 i) (hq:e q=.int .i64 j) (hr:e r=.int .i64 l) (hs:e s=.slice sa n cp):(aW e o).run prog w=.ok (.value (.agg #[.int .i64 i,.int .i64 j,.int .i64 l,.slice sa n cp,.slice none 0 0,.int .u8 0,.int .i64 0,.int .i64 0,.int .i64 0,.string ⟨#[]⟩,.string ⟨#[]⟩,.int .i64 0,.bool false])) w:=by
 unfold aW;simp[go_sem,h,hp,hq,hr,hs]
theorem q39 {i j l:Int} {sa:Option Addr} {n cp:Nat} (h:o.op=.box 135 p) (hp:e p=.agg #[.int .i64 i,.int .i64 j,.int .i64 l,.slice sa n cp,.slice none 0 0,.int .u8 0,.int .i64 0,.int .i64 0,.int .i64 0,.string ⟨#[]⟩,.string ⟨#[]⟩,.int .i64 0,.bool false]):(aW e o).run prog w=.ok (.value (.pointer (some ⟨w.heap.size,0,none⟩))) (w.alloc (.cells #[.int .i64 i,.int .i64 j,.int .i64 l,.slice sa n cp,.slice none 0 0,.int .u8 0,.int .i64 0,.int .i64 0,.int .i64 0,.string ⟨#[]⟩,.string ⟨#[]⟩,.int .i64 0,.bool false] 135)):=by
 have hA:=Tryz.isAgg135;unfold aW;simp[go_sem,h,hp,hA]
theorem Yw {a:Act} {o:Oper} {p q r:bQ} {f:FuncId} {ty:Array bo} {u v x:ah} {fn:Func} {w:aa} (h:o.op=.call {callee:=.value (.func f),args:=#[p,q,r],argTypes:=ty}) (hp:a.eval p=u) (hq:a.eval q=v) (hr:a.eval r=x) (hf:prog.funcs[f]?=some fn) (jJ:(fn.name== "runtime.NumGoroutine")=false) (hb:fn.body.isNone=false):(aW a.eval o).run prog w=.ok (.enter f #[u,v,x]) w:=by
 rw[run_call_body h hf jJ hb];simp[hp,hq,hr]
theorem q6t (L:KV):L.filter (inB [] [])=L:=by
 rw[List.filter_eq_self];intro p _;have e:aw p.1 []=false:=by cases p.1<;>rfl
 simp[inB,e]
end
noncomputable def bg1:Array Oper:=match Tryz.f58.body with
 |some (.seq _ (.seq a _))=>rg a
 |_=>#[]
theorem ji9 (y:Nat->ah):lay 46 y=#[y 0,y 1,y 2,y 3,y 4,y 5,y 6,y 7,y 8,y 9,y 10,y 11,y 12,y 13,y 14,y 15,y 16,y 17,y 18,y 19,y 20,y 21,y 22,y 23,y 24,y 25,y 26,y 27,y 28,y 29,y 30,y 31,y 32,y 33,y 34,y 35,y 36,y 37,y 38,y 39,y 40,y 41,y 42,y 43,y 44,y 45]:=rfl
noncomputable def bgo (k:Nat):Oper:=bg1.getD k ⟨none,.alloc 0,0, "",#[],none⟩
theorem q5t:Cr bg1 46=true:=by kernel_rfl
section
variable {cl n db mb id ow to:Nat} {L:KV} {w0:aa}
def Kbg (cl n db id ow to:Nat) (L:KV) (w0:aa):Nat->ah->aa->Prop
 |0,u,_=>u=.pointer (some ⟨cl,1+n*3,none⟩)
 |1,u,_=>u=.pointer (some ⟨cl,0,none⟩)
 |2,u,_=>u=.pointer (some ⟨cl,0,none⟩)
 |3,u,_=>u=.pointer (some ⟨cl,14,none⟩)
 |4,u,_=>u=.int .i64 id
 |5,u,_=>u=.pointer (some ⟨cl,1+n*3,none⟩)
 |6,u,_=>u=.pointer (some ⟨cl,1+n*3,none⟩)
 |7,u,_=>u=.pointer (some ⟨cl,1+n*3,none⟩)
 |8,u,_=>u=.int .i64 ow
 |9,u,_=>u=.int .i64 to
 |10,u,_=>u=.pointer (some ⟨cl,1+n*3,none⟩)
 |11,u,_=>u=.pointer (some ⟨cl,1+n*3,none⟩)
 |12,u,_=>u=.pointer (some ⟨cl,1+n*3+1,none⟩)
 |13,u,_=>u=.pointer (some ⟨db,0,none⟩)
 |14,u,w=>∃s c,u=.slice s L.length c/\w.ownsRow w0.heap.size 74 2 u L.length (flat L)
 |15,u,w=>∃s c,u=.agg #[.int .i64 id,.int .i64 ow,.int .i64 to,(.slice s L.length c),.slice none 0 0,.int .u8 0,.int .i64 0,.int .i64 0,.int .i64 0,.string ⟨#[]⟩,.string ⟨#[]⟩,.int .i64 0,.bool false]/\w.ownsRow w0.heap.size 74 2 (.slice s L.length c) L.length (flat L)
 |16,u,w=>∃s c g,u=.pointer (some ⟨g,0,none⟩)/\w0.heap.size<=g/\w.heap[g]?=some (.cells #[.int .i64 id,.int .i64 ow,.int .i64 to,(.slice s L.length c),.slice none 0 0,.int .u8 0,.int .i64 0,.int .i64 0,.int .i64 0,.string ⟨#[]⟩,.string ⟨#[]⟩,.int .i64 0,.bool false] 135 (0,0))/\w.ownsRow w0.heap.size 74 2 (.slice s L.length c) L.length (flat L)
 |17,u,_=>u=.pointer (some ⟨cl,1+n*3,none⟩)
 |18,u,_=>u=.pointer (some ⟨cl,1+n*3+2,none⟩)
 |_,_,_=>True
theorem Ti (j:Nat) (u:ah) (w w':aa) (hb:au w.heap.size w w') (h:Kbg cl n db id ow to L w0 j u w):Kbg cl n db id ow to L w0 j u w':=by
 match j,h with
 |0,h|1,h|2,h|3,h|4,h|5,h|6,h|7,h|8,h|9,h|10,h|11,h|12,h|13,h=>exact h
 |14,⟨s,c,h1,h2⟩=>exact⟨s,c,h1,jd h2 λq hq=>hb.block q (h2.lt q hq).2⟩
 |15,⟨s,c,h1,h2⟩=>exact⟨s,c,h1,jd h2 λq hq=>hb.block q (h2.lt q hq).2⟩
 |16,⟨s,c,g,h1,h2,h3,h4⟩=>exact⟨s,c,g,h1,h2,(hb.block g (yx h3).1).trans h3,jd h4 λq hq=>hb.block q (h4.lt q hq).2⟩
 |17,h|18,h=>exact h
 |i+19,_=>trivial
theorem jhe {a:Act} {Q:Exit->Act->aa->Prop} (eU:a.tmps.size=46) (Ow:a.defers=[]) (h0:a.tmps.getD 0 bC=.pointer (some ⟨cl,0,none⟩)) (h1:a.tmps.getD 1 bC=.pointer (some ⟨cl,1+n*3,none⟩)) (h3:a.tmps.getD 3 bC=.int .i64 to)
  (cI:w.cell? ⟨cl,14,none⟩=some (.int .i64 id)) (cO:w.cell? ⟨cl,1+n*3,none⟩=some (.int .i64 ow)) (cD:w.cell? ⟨cl,1+n*3+1,none⟩=some (.pointer (some ⟨db,0,none⟩))) (cV:∃v,w.cell? ⟨cl,1+n*3+2,none⟩=some v) (fV:w.frozen? ⟨cl,1+n*3+2,none⟩=false) (cm:w.cell? ⟨db,0,none⟩=some (.map (some mb))) (hm:jv w mb L) (ou:zm L) (hL:L.length<=12) (iQ:∀p∈L,p.1.length<=aE)
  (hQ:∀y w1 g s c,(∀s,(∀(j:Nat) o,bg1[j]?=some o->o.dst≠some s)->y s=a.tmps.getD s bC)->au w.heap.size w w1->w.heap.size<=g->w1.heap[g]?=some (.cells #[.int .i64 id,.int .i64 ow,.int .i64 to,(.slice s L.length c),.slice none 0 0,.int .u8 0,.int .i64 0,.int .i64 0,.int .i64 0,.string ⟨#[]⟩,.string ⟨#[]⟩,.int .i64 0,.bool false] 135 (0,0))->w1.ownsRow w.heap.size 74 2 (.slice s L.length c) L.length (flat L)->Q .normal ⟨lay 46 y,[]⟩ (w1.setCell ⟨cl,1+n*3+2,none⟩ (.pointer (some ⟨g,0,none⟩)))):(aQ 1 bg1 true).wp prog Q a w:=by
 have NC:=xbl w _ cI;have ltd:=xbl w _ cm;refine Ur (n:=46) (x0:=λs=>a.tmps.getD s bC) (turn:=20) (KN:=Kbg cl n db id ow to L w) (J:=λ_ w1=>au w.heap.size w w1) (by kernel_rfl) q5t ⟨_,?_,λ_=>rfl⟩ (aZ (zk _ _)) ?_ ?_
 ·obtain⟨t,df⟩:=a;obtain rfl:df=[]:=Ow;rw[AX eU]
 ·intro j o d y w1 b hbt ho hd hy qo hJ;have old:∀q,q<w.heap.size->w1.heap[q]?=w.heap[q]?:=λq h1=>hJ.block q h1;have y0:y 0=.pointer (some ⟨cl,0,none⟩):=(hy 0 (qz (by kernel_rfl))).trans h0;have y1:y 1=.pointer (some ⟨cl,1+n*3,none⟩):=(hy 1 (qz (by kernel_rfl))).trans h1;have y3:y 3=.int .i64 to:=(hy 3 (qz (by kernel_rfl))).trans h3;match j,ho with
  |0,ho=>
   cases ho;cases hd;exact qf (run_move rfl (jc y1)) ⟨_,qc rfl,rfl,hJ,λ_ _ _ h=>h⟩
  |1,ho=>
   cases ho;cases hd;exact qf (run_move rfl (jc y0)) ⟨_,qc rfl,rfl,hJ,λ_ _ _ h=>h⟩
  |2,ho=>
   cases ho;cases hd;have k1:y 16=.pointer (some ⟨cl,0,none⟩):=qo 1 _ 16 rfl rfl (qd rfl);exact qf (y7 rfl (jc k1)) ⟨_,qc rfl,rfl,hJ,λ_ _ _ h=>h⟩
  |3,ho=>
   cases ho;cases hd;have k2:y 17=.pointer (some ⟨cl,0,none⟩):=qo 2 _ 17 rfl rfl (qd rfl);exact qf (q4b rfl (jc k2)) ⟨_,qc rfl,rfl,hJ,λ_ _ _ h=>h⟩
  |4,ho=>
   cases ho;cases hd;have k3:y 18=.pointer (some ⟨cl,14,none⟩):=qo 3 _ 18 rfl rfl (qd rfl);exact qf (jk (ty:=3) rfl (jc k3) (by simp[isAgg]) ((xcb (old cl NC)).trans cI)) ⟨_,qc rfl,rfl,hJ,λ_ _ _ h=>h⟩
  |5,ho=>
   cases ho;cases hd;exact qf (run_move rfl (jc y1)) ⟨_,qc rfl,rfl,hJ,λ_ _ _ h=>h⟩
  |6,ho=>
   cases ho;cases hd;have k5:y 20=.pointer (some ⟨cl,1+n*3,none⟩):=qo 5 _ 20 rfl rfl (qd rfl);exact qf (y7 rfl (jc k5)) ⟨_,qc rfl,rfl,hJ,λ_ _ _ h=>h⟩
  |7,ho=>
   cases ho;cases hd;have k6:y 21=.pointer (some ⟨cl,1+n*3,none⟩):=qo 6 _ 21 rfl rfl (qd rfl);exact qf (Nf 0 (by decide) rfl (jc k6)) ⟨_,qc rfl,rfl,hJ,λ_ _ _ h=>h⟩
  |8,ho=>
   cases ho;cases hd;have k7:y 22=.pointer (some ⟨cl,1+n*3,none⟩):=qo 7 _ 22 rfl rfl (qd rfl);exact qf (jk (ty:=3) rfl (jc k7) (by simp[isAgg]) ((xcb (old cl NC)).trans cO)) ⟨_,qc rfl,rfl,hJ,λ_ _ _ h=>h⟩
  |9,ho=>
   cases ho;cases hd;exact qf (run_move rfl (jc y3)) ⟨_,qc rfl,rfl,hJ,λ_ _ _ h=>h⟩
  |10,ho=>
   cases ho;cases hd;exact qf (run_move rfl (jc y1)) ⟨_,qc rfl,rfl,hJ,λ_ _ _ h=>h⟩
  |11,ho=>
   cases ho;cases hd;have jE:y 25=.pointer (some ⟨cl,1+n*3,none⟩):=qo 10 _ 25 rfl rfl (qd rfl);exact qf (y7 rfl (jc jE)) ⟨_,qc rfl,rfl,hJ,λ_ _ _ h=>h⟩
  |12,ho=>
   cases ho;cases hd;have nZ:y 26=.pointer (some ⟨cl,1+n*3,none⟩):=qo 11 _ 26 rfl rfl (qd rfl);exact qf (Nf 1 (by decide) rfl (jc nZ)) ⟨_,qc rfl,rfl,hJ,λ_ _ _ h=>h⟩
  |13,ho=>
   cases ho;cases hd;have uO:y 27=.pointer (some ⟨cl,1+n*3+1,none⟩):=qo 12 _ 27 rfl rfl (qd rfl);exact qf (jk (ty:=77) rfl (jc uO) (by simp[isAgg]) ((xcb (old cl NC)).trans cD)) ⟨_,qc rfl,rfl,hJ,λ_ _ _ h=>h⟩
  |14,ho=>
   cases ho;cases hd;have vR:y 28=.pointer (some ⟨db,0,none⟩):=qo 13 _ 28 rfl rfl (qd rfl);refine Jp (Yw rfl (jc vR) rfl rfl func56 rfl rfl) (QY ((xcb (old _ ltd)).trans cm) (hm.block (old _ hm.lt)) ou hL iQ ⟨#[]⟩ ⟨#[]⟩) ?_;have he:L.filter (inB (⟨#[]⟩:ByteArray).data.toList (⟨#[]⟩:ByteArray).data.toList)=L:=q6t L;rw[he];rintro e w2 ⟨v,rfl,hr,hb⟩;obtain⟨s,c,rfl⟩:=Yx hr;exact⟨_,rfl,_,qc rfl,⟨s,c,rfl,(Jb hr.1 hr.2 hJ.size rfl).1⟩,hJ.trans (hb.mono hJ.size),λi u _ h=>Ti i u _ _ hb h⟩
  |15,ho=>
   cases ho;cases hd;have k4:y 19=.int .i64 id:=qo 4 _ 19 rfl rfl (qd rfl);have k8:y 23=.int .i64 ow:=qo 8 _ 23 rfl rfl (qd rfl);have k9:y 24=.int .i64 to:=qo 9 _ 24 rfl rfl (qd rfl);obtain⟨s,c,uN,X4⟩:Kbg cl n db id ow to L w 14 (y 29) w1:=qo 14 _ 29 rfl rfl (qd rfl);exact qf (Zx rfl (jc k4) (jc k8) (jc k9) (jc uN)) ⟨_,qc rfl,⟨s,c,rfl,uN▸X4⟩,hJ,λ_ _ _ h=>h⟩
  |16,ho=>
   cases ho;cases hd;obtain⟨s,c,zA,QI⟩:Kbg cl n db id ow to L w 15 (y 30) w1:=qo 15 _ 30 rfl rfl (qd rfl);have jB:au w1.heap.size w1 (w1.alloc (.cells #[.int .i64 id,.int .i64 ow,.int .i64 to,(.slice s L.length c),.slice none 0 0,.int .u8 0,.int .i64 0,.int .i64 0,.int .i64 0,.string ⟨#[]⟩,.string ⟨#[]⟩,.int .i64 0,.bool false] 135)):=(zk _ _).alloc (ji _) _;exact qf (q39 rfl (jc zA)) ⟨_,qc rfl,⟨s,c,w1.heap.size,rfl,hJ.size,az _ _,jd QI λq hq=>jB.block q (QI.lt q hq).2⟩,hJ.trans (jB.mono hJ.size),λi u _ h=>Ti i u _ _ jB h⟩
  |17,ho=>
   cases ho;cases hd;have k0:y 15=.pointer (some ⟨cl,1+n*3,none⟩):=qo 0 _ 15 rfl rfl (qd rfl);exact qf (y7 rfl (jc k0)) ⟨_,qc rfl,rfl,hJ,λ_ _ _ h=>h⟩
  |18,ho=>
   cases ho;cases hd;have GR:y 32=.pointer (some ⟨cl,1+n*3,none⟩):=qo 17 _ 32 rfl rfl (qd rfl);exact qf (Nf 2 (by decide) rfl (jc GR)) ⟨_,qc rfl,rfl,hJ,λ_ _ _ h=>h⟩
  |19,ho=>
   obtain rfl:=qj (a:=bgo 19) rfl ho;exact absurd (show(bgo 19).dst=none from rfl) (by rw[hd];exact λe=>by cases e)
  |i+20,ho=>exact absurd ho (by rw[Array.getElem?_eq_none (show bg1.size<=i+20 by show 20<=i+20;omega)];exact λe=>by cases e)
 ·intro mm o y w1 Oj ho hy hk hJ;obtain rfl:mm=19:=by
   have:mm+1=20:=Oj;omega
  obtain rfl:=qj (a:=bgo 19) rfl ho;have ka:y 33=.pointer (some ⟨cl,1+n*3+2,none⟩):=hk 18 (bgo 18) 33 rfl rfl;obtain⟨s,c,g,kb,q1,q2,q3⟩:Kbg cl n db id ow to L w 16 (y 31) w1:=hk 16 (bgo 16) 31 rfl rfl;obtain⟨v0,cV⟩:=cV;have dY:=xbl w _ cV;have jW:w1.cell? ⟨cl,1+n*3+2,none⟩=some v0:=(xcb (hJ.block _ dY)).trans cV;have fM:w1.frozen? ⟨cl,1+n*3+2,none⟩=false:=(World.frozen?_of_block (hJ.block _ dY)).trans fV;have hr:(aW (Act.mk (lay 46 y) []).eval (bgo 19)).run prog w1=.ok .skip (w1.setCell ⟨cl,1+n*3+2,none⟩ (.pointer (some ⟨g,0,none⟩))):=by
   have e1:(Act.mk (lay 46 y) []).eval (.tmp 33)=.pointer (some ⟨cl,1+n*3+2,none⟩):=tmp (by decide) ka;have e2:(Act.mk (lay 46 y) []).eval (.tmp 31)=.pointer (some ⟨g,0,none⟩):=tmp (by decide) kb;have dW:(bgo 19).op=.store 78 (.tmp 33) (.tmp 31):=rfl;have hu:=underlying78;generalize (Act.mk (lay 46 y) []).eval=ev at*;unfold aW;simp[go_sem,dW,e1,e2,hu,isAgg,jW,fM]
  unfold Oper.wp;rw[hr];exact hQ y w1 g s c hy hJ q1 q2 q3
end
section
variable {w w':aa} {cl db mb x n:Nat} {L:KV} {pv cv:ah} {ld:ByteArray} {m:Mv}
theorem Mx {w4:aa} {v:ByteArray} {cv':ah} (he:oP L k.data.toList v.data.toList g=0/\chL L k.data.toList v.data.toList g=X) (hm:jv w3 mb X) (hx:MX x n pv cv ld m w3) (h3:But (· =mb) w w3)
  (h4:MX x n pv cv' ld {m with cs:=m.cs++[II k v g]} w4/\(∀b,cv'.ownBlock=some b->cv.ownBlock=some b\/w3.heap.size<=b)/\But (λq=>q=x\/cv.ownBlock=some q) w3 w4):
  I9 w mb x n pv cv ld m (chL L k.data.toList v.data.toList g) (csL L m.cs k v g) (oP L k.data.toList v.data.toList g) (.returned (.int .i64 0)) w4:=by
 unfold csL;rw[he.1,he.2,if_pos rfl];refine⟨rfl,hm.block (h4.2.2.keep _ hm.lt ?_),⟨cv',h4.1,λb hb=>(h4.2.1 b hb).imp id λe=>xlt h3.size e⟩,(h3.mono λb e=>.inl e).trans (h4.2.2.mono λb e=>.inr e)⟩;rintro(e|e)
 ·exact zx hm hx.b e.symm
 ·obtain⟨c,hc⟩:=za.ty hx.r e;exact zx hm hc rfl
theorem qq3 (k v:ByteArray) (g:Bool) (n:Nat) (hn:n<4) (hk:iT k.data.toList=true) (mY:je k.data.toList=n) (iQ:k.size<=aE) (hL:L.length<=12) (hp:rZ w cl n db mb (some ⟨x,0,none⟩) L) (hx:MX x n pv cv ld m w) (hs:m.sealed=false) (gH:m.cs.length<=1073741820) (mZ:cv.ownBlock≠some cl):
  aD prog 40 #[.pointer (some ⟨cl,0,none⟩),.agg #[.string k,.string v,.bool g]] w (I9 w mb x n pv cv ld m (chL L k.data.toList v.data.toList g) (csL L m.cs k v g) (oP L k.data.toList v.data.toList g)):=by
 have Dh:((n:Int)<4):=by omega
 have HX:=Hd hx;have HS:=Hd hs;have Pm:=Hd mZ;clear hx hs mZ;have HCB:Hid (cv.ownBlock≠some w.heap.size):=Hd λe=>absurd (za.lt HX.r e) (bX _);go_enter func40,ntmps40;go_wp2_with (go_at_call 41;refine(FP _ _ hk).mono ?_;rintro e w1 ⟨rfl,hb⟩;rw[mY])
 obtain⟨jW,nE⟩:=ChW.of hp hb;clear hb hp;have Ig:=Hd nE;have qI:=Hd (ac jW (HX.below nE));obtain⟨c0,c1,c2,pd,pv',pm,pl⟩:=id jW;clear nE jW pl;go_region_held3 (λw'=>w'.cell? ⟨cl,1+n*3+1,none⟩=some (.pointer (some ⟨db,0,none⟩))/\w'.cell? ⟨w.heap.size,0,none⟩=some (.string k)/\Hid (ChM w.heap.size cl n db mb x pv cv ld m L k v g w'/\au w.heap.size w w'))
  (first|exact⟨pd,c0,Hd ⟨⟨qI.1.drew,qI.2.below (aZ (zk _ _))⟩,Ig.drew⟩⟩|exact⟨(iR.1).1.d,(iR.1).1.c0,iR⟩)
  (first|(go_at_call 42;refine(Td (by assumption) iQ).mono ?_;rintro e w2 ⟨rfl,mD⟩;have iR:=Hd mD;clear mD))
 obtain⟨has,kZ⟩:∃b,(jb L k.data.toList).isSome=b:=⟨_,rfl⟩
 rw[kZ];have HF:=Hd kZ;clear kZ;generalize sv ((jb L k.data.toList).getD [])=gv;obtain⟨e0,e1,e2,ed,ev,em,el⟩:=iR.1.1;obtain⟨q1,q2,q3⟩:=iR.1.2.cells;rw[HS.o]at q2;have EL:=Hd el;clear el;by_cases mI:12<v.size
 ·have HE:=Hd (U7 (L:=L) (k:=k.data.toList) (g:=g) (v:=v.data.toList) (by simpa using mI));have g1:decide ((12:Int)<v.size)=true:=by simp;omega
  go_wp2;go_ret;unfold csL;rw[HE.1,HE.2,if_neg (by decide)];exact .idle iR.1.2 EL.o iR.2
 have HG:=Hd (LC (L:=L) (k:=k.data.toList) (g:=g) (v:=v.data.toList) (by simpa using mI));rw[HF.o]at HG;have g1:decide ((12:Int)<v.size)=false:=by simp;omega
 cases g
 ·cases has
  ·by_cases pV:L.length=12
   ·have HE:=Hd (HG.1 rfl rfl pV);go_wp2_with (go_at_call 68;refine(IV em EL.o).mono ?_;rintro e w' ⟨rfl,rfl⟩)
    go_ret;unfold csL;rw[HE.1,HE.2,if_neg (by decide)];exact .idle iR.1.2 EL.o iR.2
   ·have HE:=Hd (HG.2.1 rfl (.inr pV));go_wp2_with (go_at_call 68;refine(IV em EL.o).mono ?_;rintro e w' ⟨rfl,rfl⟩)
    refine aM 5 (by kernel_rfl) (by kernel_rfl) ?_;change wpStill _ _ w2.drew (λa'=>wpList _ _ _ _ a' w2.drew) _ _;simp only[aj,bj,aN,bk];repeat still_step
    refine bw ?_;go_wp2_with (go_at_call 69;refine(FQ (w:=w2.drew) em (EL.block rfl) (by omega) k v iQ).mono ?_;rintro e w3 ⟨rfl,oV,fO⟩;have mE:=Hd (ac (iR.1.1.drew.but fO oV) ((iR.1.2.below (w':=w2.drew) (aZ (zk _ _))).but (EL.block rfl) fO));have kU:=Hd ((But.of_below (B:=(· =mb)) iR.2).drew.trans fO);obtain⟨f0,f1,f2,fd,fv,fm,fl⟩:=mE.1;clear fl oV fO)
    change bP _ (aQ 16 cg1 true) _ _ _;refine LD (cb:=w.heap.size) (k:=k) (v:=v) (g:=false) rfl rfl rfl mE.2 fv f0 f1 f2 Pm.o gH λy w4 cv' iw Bu iI=>?_;rw[IW];have H4:=Hd (ac iw (ac Bu iI));clear iw Bu iI;go_wp2;go_ret;exact Mx HE.o mE.1.l mE.2 kU.o H4.o
  ·have HE:=Hd (HG.2.1 rfl (.inl rfl));go_wp2;refine aM 5 (by kernel_rfl) (by kernel_rfl) ?_;change wpStill _ _ w2.drew (λa'=>wpList _ _ _ _ a' w2.drew) _ _;simp only[aj,bj,aN,bk];repeat still_step
   refine bw ?_;go_wp2_with (go_at_call 69;refine(FQ (w:=w2.drew) em (EL.block rfl) (by omega) k v iQ).mono ?_;rintro e w3 ⟨rfl,oV,fO⟩;have mE:=Hd (ac (iR.1.1.drew.but fO oV) ((iR.1.2.below (w':=w2.drew) (aZ (zk _ _))).but (EL.block rfl) fO));have kU:=Hd ((But.of_below (B:=(· =mb)) iR.2).drew.trans fO);obtain⟨f0,f1,f2,fd,fv,fm,fl⟩:=mE.1;clear fl oV fO)
   change bP _ (aQ 16 cg1 true) _ _ _;refine LD (cb:=w.heap.size) (k:=k) (v:=v) (g:=false) rfl rfl rfl mE.2 fv f0 f1 f2 Pm.o gH λy w4 cv' iw Bu iI=>?_;rw[IW];have H4:=Hd (ac iw (ac Bu iI));clear iw Bu iI;go_wp2;go_ret;exact Mx HE.o mE.1.l mE.2 kU.o H4.o
 ·cases has
  ·have HE:=Hd (HG.2.2.1 rfl rfl);go_wp2;go_ret;unfold csL;rw[HE.1,HE.2,if_neg (by decide)];exact .idle iR.1.2 EL.o iR.2
  ·have HE:=Hd (HG.2.2.2 rfl rfl);go_wp2;refine aM 5 (by kernel_rfl) (by kernel_rfl) ?_;change wpStill _ _ w2.drew (λa'=>wpList _ _ _ _ a' w2.drew) _ _;simp only[aj,bj,aN,bk];repeat still_step
   refine bw ?_;go_wp2_with (go_at_call 69;refine(LA (w:=w2.drew) em (EL.block rfl) k v iQ).mono ?_;rintro e w3 ⟨rfl,oV,fO⟩;have mE:=Hd (ac (iR.1.1.drew.but fO oV) ((iR.1.2.below (w':=w2.drew) (aZ (zk _ _))).but (EL.block rfl) fO));have kU:=Hd ((But.of_below (B:=(· =mb)) iR.2).drew.trans fO);obtain⟨f0,f1,f2,fd,fv,fm,fl⟩:=mE.1;clear fl oV fO)
   change bP _ (aQ 16 cg1 true) _ _ _;refine LD (cb:=w.heap.size) (k:=k) (v:=v) (g:=true) rfl rfl rfl mE.2 fv f0 f1 f2 Pm.o gH λy w4 cv' iw Bu iI=>?_;rw[IW];have H4:=Hd (ac iw (ac Bu iI));clear iw Bu iI;go_wp2;go_ret;exact Mx HE.o mE.1.l mE.2 kU.o H4.o
end
end Go.Proofs.YtkpekiajdlolnabGreat.Ph
namespace Go.Proofs.YtkpekiajdlolnabGreat
open Go.RowKit Go.Maps
section
variable {w w':aa} {F F':Nat->Prop} {A:PA} {s:St} {n:Nat}
def kr:Option Mv->Bool
 |none=>false
 |some m=>m.sealed
theorem lm.keep {m:Option Mv} (h:lm w F A i m) (k1:∀b cur,A.mp i=some b->w.heap[b]?=some (av cur 135 (0,0))->w'.heap[b]?=w.heap[b]?) (k2:∀b cur,(A.pv i).ownBlock=some b->w.heap[b]?=some (av cur 74 (0,0))->w'.heap[b]?=w.heap[b]?) (k3:∀b cur,(A.cv i).ownBlock=some b->w.heap[b]?=some (av cur 87 (0,0))->w'.heap[b]?=w.heap[b]?):lm w' F A i m:=by
 cases m with
 |none=>exact h
 |some m=>
  obtain⟨g,h1,h2,h3,h4,h5,h6,h7⟩:=h;refine⟨g,h1,h2,(k1 g _ h1 h3).trans h3,h4.block λb hb=>?_,h5.block λb hb=>?_,h6,h7⟩
  ·obtain⟨c,hc⟩:=za.ty h4 hb;exact k2 b _ hb hc
  ·obtain⟨c,hc⟩:=za.ty h5 hb;exact k3 b _ hb hc
theorem jo.put (h:jo w F A s) (hn:n<4) (hb:But (· =A.mb n) w w') (hm:jv w' (A.mb n) X):jo w' F A {s with kv:=vv s.kv n X}:=by
 have no:∀(b:Nat) (cur:Array ah) (ty:bo),w.heap[b]?=some (av cur ty (0,0))->w'.heap[b]?=w.heap[b]?:=λb cur ty eP=>hb.keep b (yx eP).1 (zx (h.mb n hn).2 eP);refine⟨⟨h.cl.1,(no _ _ _ h.cl.2).trans h.cl.2⟩,λi hi=>⟨(h.db i hi).1,(no _ _ _ (h.db i hi).2).trans (h.db i hi).2⟩,λi hi=>⟨(h.mb i hi).1,?_⟩,h.mbi,λi hi=>(h.mv i hi).keep (λb cur _ eP=>no b cur _ eP) (λb cur _ eP=>no b cur _ eP) (λb cur _ eP=>no b cur _ eP),h.mpi,h.cvi,h.stg.keep (λb cur ty eP _=>no b cur ty eP) (λb ⟨es,ck,eP⟩ hw=>hb.keep b (yx eP).1 λe=>hw.elim (λe2=>h.smb n hn (e.symm.trans e2)) λ⟨x,y,hx,hy,hz,e2⟩=>(h.stg.n x y hx hy hz).2 n hn (e.symm.trans e2)) (λ_ h=>h) rfl rfl rfl,h.smb⟩;show jv w' (A.mb i) (vv s.kv n X i);unfold vv;split
 ·rename_i e;subst e;exact hm
 ·rename_i e;exact(h.mb i hi).2.block (hb.keep _ (h.mb i hi).2.lt λe2=>e (h.mbi i n hi hn e2))
theorem jo.chg {x:Nat} {m:Mv} {fZ:List Chg} {cv':ah} (h:jo w F A s) (hn:n<4) (ru:A.mp n=some x) (eu:s.mv n=some m) (hx:MX x n (A.pv n) (A.cv n) (A.ld n) m w) (hb:But (ChB (A.mb n) x (A.cv n)) w w') (hm:jv w' (A.mb n) X)
  (h4:MX x n (A.pv n) cv' (A.ld n) {m with cs:=fZ} w') (hc:∀b,cv'.ownBlock=some b->(A.cv n).ownBlock=some b\/w.heap.size<=b):
  jo w' (λb=>F b\/w.heap.size<=b) {A with cv:=qi A.cv n cv'} {s with kv:=vv s.kv n X,mv:=qi s.mv n (some {m with cs:=fZ})}:=by
 have lt:∀{b:Nat} {o:Obj},w.heap[b]?=some o->b<w.heap.size:=λhb=>(yx hb).1;have Lg:∀b,(A.cv n).ownBlock=some b->∃cur,w.heap[b]?=some (av cur 87 (0,0)):=λb hb=>za.ty hx.r hb;have gY:∀(b:Nat) (cur:Array ah) (ty:bo),w.heap[b]?=some (av cur ty (0,0))->ty≠135->ty≠87->w'.heap[b]?=w.heap[b]?:=λb cur ty eP n1 n2=>hb.keep b (lt eP) (by
  rintro(e|e|e)
  ·exact zx (h.mb n hn).2 eP e
  ·rw[e,hx.b]at eP;have e2:=xoi eP;injection e2 with _ e3;exact n1 e3.symm
  ·obtain⟨c,hc⟩:=Lg b e;rw[hc]at eP;have e2:=xoi eP;injection e2 with _ e3
   exact n2 e3.symm)
 have nJ:∀b,(∃es ck,w.heap[b]?=some (Obj.map es ck))->b≠A.mb n->w'.heap[b]?=w.heap[b]?:=λb ⟨es,ck,eP⟩ eB=>hb.keep b (lt eP) (by
  rintro(e|e|e)
  ·exact eB e
  ·rw[e,hx.b]at eP;cases eP
  ·obtain⟨c,hc⟩:=Lg b e
   rw[hc]at eP;cases eP)
 refine⟨⟨.inl h.cl.1,?_⟩,λi hi=>⟨.inl (h.db i hi).1,(gY _ _ _ (h.db i hi).2 (by decide) (by decide)).trans (h.db i hi).2⟩,λi hi=>⟨.inl (h.mb i hi).1,?_⟩,h.mbi,λi hi=>?_,h.mpi,λi j g hi hj h1 h2=>?_,h.stg.keep (λb cur ty eP ht=>gY b cur ty eP (by rcases ht with rfl|rfl<;>decide) (by rcases ht with rfl|rfl<;>decide)) (λb eP hw=>nJ b eP λe=>hw.elim (λe2=>h.smb n hn (e.symm.trans e2)) λ⟨x,y,hx,hy,hz,e2⟩=>(h.stg.n x y hx hy hz).2 n hn (e.symm.trans e2)) (λ_ h=>.inl h) rfl rfl rfl,h.smb⟩
 ·exact(gY _ _ _ h.cl.2 (by decide) (by decide)).trans h.cl.2
 ·show jv w' (A.mb i) (vv s.kv n X i);unfold vv;split
  ·rename_i e;subst e;exact hm
  ·rename_i e;obtain⟨es,ck,eP,_⟩:=(h.mb i hi).2;exact(h.mb i hi).2.block (nJ _ ⟨es,ck,eP⟩ λe2=>e (h.mbi i n hi hn e2))
 ·show lm w' _ _ i (qi s.mv n _ i);by_cases e:i=n
  ·subst e;rw[show qi s.mv i (some {m with cs:=fZ}) i=some {m with cs:=fZ} by unfold qi;rw[if_pos rfl]];have h0:=h.mv i hi;rw[eu]at h0;obtain⟨g,z1,z2,z3,z4,z5,z6,z7⟩:=h0;rw[ru]at z1;cases z1;refine⟨x,ru,.inl z2,?_,?_,?_,λb hb=>.inl (z6 b hb),λb hb=>?_⟩
   ·rw[h4.b];show _=some (av (qh i (A.pv i) (qi A.cv i cv' i) (A.ld i) _) _ _);rw[show qi A.cv i cv' i=cv' by unfold qi;rw[if_pos rfl]]
   ·exact z4.block λb hb=>by
     obtain⟨c,hc⟩:=za.ty z4 hb;exact gY b c _ hc (by decide) (by decide)
   ·show qA w' (qi A.cv i cv' i) fZ;rw[show qi A.cv i cv' i=cv' by unfold qi;rw[if_pos rfl]];exact h4.r
   ·have hb:cv'.ownBlock=some b:=by
     have:qi A.cv i cv' i=cv':=by unfold qi;rw[if_pos rfl]
     rw[<-this];exact hb
    exact(hc b hb).imp (z7 b) id
  ·rw[show qi s.mv n (some {m with cs:=fZ}) i=s.mv i by unfold qi;rw[if_neg e]];have hA:qi A.cv n cv' i=A.cv i:=by unfold qi;rw[if_neg e]
   have h1:lm w' (λb=>F b\/w.heap.size<=b) A i (s.mv i):=((h.mv i hi).keep (λb cur o eP=>hb.keep b (lt eP) (by
     rintro(e2|e2|e2)
     ·exact zx (h.mb n hn).2 eP e2
     ·exact e (h.mpi i n b hi hn o (by rw[ru,e2]))
     ·obtain⟨c,hc⟩:=Lg b e2;rw[hc]at eP;have e3:=xoi eP;injection e3 with _ e4;exact absurd e4 (by decide))) (λb cur o eP=>gY b cur _ eP (by decide) (by decide)) (λb cur o eP=>hb.keep b (lt eP) (by
     rintro(e2|e2|e2)
     ·exact zx (h.mb n hn).2 eP e2
     ·rw[e2,hx.b]at eP;have e3:=xoi eP;injection e3 with _ e4;exact absurd e4 (by decide)
     ·exact e (h.cvi i n b hi hn o e2)))).mono λb hb=>.inl hb
   ·cases iW:s.mv i with
    |none=>rw[iW]at h1;exact⟨h1.1,by show(qi A.cv n cv' i).ownBlock=none;rw[hA];exact h1.2⟩
    |some mi=>
     rw[iW]at h1;obtain⟨g,z1,z2,z3,z4,z5,z6,z7⟩:=h1;exact⟨g,z1,z2,by rw[z3];show _=some (av (qh i (A.pv i) (qi A.cv n cv' i) (A.ld i) _) _ _);rw[hA],z4,by show qA w' (qi A.cv n cv' i) _;rw[hA];exact z5,z6,λb hb=>z7 b (by have hb:(qi A.cv n cv' i).ownBlock=some b:=hb;rw[hA]at hb;exact hb)⟩
 ·have h1:(qi A.cv n cv' i).ownBlock=some g:=h1;have h2:(qi A.cv n cv' j).ownBlock=some g:=h2;have ltc:∀i,i<4->∀b,(A.cv i).ownBlock=some b->b<w.heap.size:=λi hi b hb=>by
   have h0:=h.mv i hi;cases iW:s.mv i with
   |none=>rw[iW]at h0;rw[h0.2]at hb;cases hb
   |some mi=>
    rw[iW]at h0;obtain⟨q,z1,z2,z3,z4,z5,z6,z7⟩:=h0;exact za.lt z5 hb
  unfold qi at h1 h2;by_cases e1:i=n
  ·by_cases e2:j=n
   ·omega
   ·rw[if_pos e1]at h1;rw[if_neg e2]at h2;rcases hc g h1 with h3|h3
    ·exact absurd (h.cvi n j g hn hj h3 h2) λe=>e2 e.symm
    ·have:=ltc j hj g h2;omega
  ·rw[if_neg e1]at h1;by_cases e2:j=n
   ·rw[if_pos e2]at h2;rcases hc g h2 with h3|h3
    ·exact absurd (h.cvi i n g hi hn h1 h3) e1
    ·have:=ltc i hi g h1;omega
   ·rw[if_neg e2]at h2;exact h.cvi i j g hi hj h1 h2
end
end Go.Proofs.YtkpekiajdlolnabGreat
namespace Go.Proofs.YtkpekiajdlolnabGreat.Ph
open Go.Conc Go.ConcN Go.RowKit Go.Maps Go.Conc.Lib Go Sim
def j4 (w:aa) (F:Nat->Prop) (A:PA) (v:ah) (s':St) (e:bK) (w':aa):Prop:=e=.returned v/\∃A':PA,A'.cl=A.cl/\jo w' (λb=>F b\/w.heap.size<=b) A' s'/\But F w w'
def chE (s:St) (k v:ByteArray) (g:Bool):Int:=if iT k.data.toList then(if kr (s.mv (je k.data.toList))then(if 12<v.data.toList.length then 3 else 5)else oP (s.kv (je k.data.toList)) k.data.toList v.data.toList g)else 2
def chS (s:St) (k v:ByteArray) (g:Bool):St:=if iT k.data.toList&&!kr (s.mv (je k.data.toList))then{s with kv:=vv s.kv (je k.data.toList) (chL (s.kv (je k.data.toList)) k.data.toList v.data.toList g),mv:=qi s.mv (je k.data.toList) ((s.mv (je k.data.toList)).map λm=>{m with cs:=csL (s.kv (je k.data.toList)) m.cs k v g})}else s
section
variable {w w':aa} {F:Nat->Prop} {A:PA} {s:St}
theorem j4.idle {v:ah} (h:jo w F A s) (hb:au w.heap.size w w'):j4 w F A v s (.returned v) w':=⟨rfl,A,rfl,(h.below hb).mono λ_ h=>.inl h,But.of_below hb⟩
theorem SX (h:jo w F A s) (hl:∀i,i<4->(s.kv i).length<=12) (gH:∀i,i<4->∀m,s.mv i=some m->m.cs.length<=1073741820) (k v:ByteArray) (g:Bool) (hs:k.size<=aE):
  aD prog 40 #[.pointer (some ⟨A.cl,0,none⟩),.agg #[.string k,.string v,.bool g]] w (j4 w F A (.int .i64 (chE s k v g)) (chS s k v g)):=by
 cases hk:iT k.data.toList
 ·refine(qtj k v g hk hs).mono λe w' ⟨h1,h2⟩=>?_;unfold chE chS;rw[hk,h1];exact .idle h h2
 ·have hn:=EJ k.data.toList;obtain⟨n,xG⟩:∃n,je k.data.toList=n:=⟨_,rfl⟩
  unfold chE chS;rw[xG]at hn;rw[hk,xG];have hp:=h.part n hn;have hm:=h.mv n hn;cases eu:s.mv n with
  |none=>
   rw[eu]at hm;rw[hm.1]at hp;refine(qtk k v g n hn hk xG hs (hl n hn) hp).mono λe w' ⟨h1,h2,h3⟩=>?_;have h4:=(h.put hn h3 h2).mono (F':=λb=>F b\/w.heap.size<=b) λ_ h=>.inl h;refine⟨h1,A,rfl,?_,h3.mono λb e=>e▸(h.mb n hn).1⟩;have e:qi s.mv n (Option.map (λm:Mv=>{m with cs:=csL (s.kv n) m.cs k v g}) none)=s.mv:=by
    funext i;unfold qi;split
    ·rename_i e;rw[e,eu];rfl
    ·rfl
   show jo w' _ A {s with kv:=_,mv:=qi s.mv n (Option.map (λm:Mv=>{m with cs:=csL (s.kv n) m.cs k v g}) none)};rw[e];exact h4
  |some m=>
   rw[eu]at hm;obtain⟨x,z1,z2,z3,z4,z5,z6,z7⟩:=hm;rw[z1]at hp;have hx:MX x n (A.pv n) (A.cv n) (A.ld n) m w:=⟨z3,z5⟩
   cases fP:m.sealed
   ·have mZ:(A.cv n).ownBlock≠some A.cl:=λe=>by
     obtain⟨c,hc⟩:=za.ty z5 e;rw[h.cl.2]at hc;have e2:=xoi hc;injection e2 with _ e3;exact absurd e3 (by decide)
    refine(qq3 k v g n hn hk xG hs (hl n hn) hp hx fP (gH n hn m eu) mZ).mono λe w' ⟨h1,h2,⟨cv',h3,h4⟩,h5⟩=>?_;rw[show kr (some m)=false from fP];refine⟨h1,{A with cv:=qi A.cv n cv'},rfl,h.chg hn z1 eu hx h5 h2 h3 h4,h5.mono λb e=>?_⟩;rcases e with e|e|e
    ·exact e▸(h.mb n hn).1
    ·exact e▸z2
    ·exact z7 b e
   ·refine(qnb k v g n hn hk xG hs (hl n hn) hp hx fP).mono λe w' ⟨h1,h2⟩=>?_;rw[show kr (some m)=true from fP,h1];exact .idle h h2
theorem UC (h:jo w F A s) (hl:∀i,i<4->(s.kv i).length<=12) (gH:∀i,i<4->∀m,s.mv i=some m->m.cs.length<=1073741820) (k v:ByteArray) (hs:k.size<=aE):
  aD prog 18 #[.pointer (some ⟨A.cl,0,none⟩),.string k,.string v] w (j4 w F A (.int .i64 (chE s k v false)) (chS s k v false)):=by
 have hc:=SX h hl gH k v false hs;generalize chS s k v false=s' at*;generalize chE s k v false=c at*;clear h hl gH;go_enter func18,ntmps18;go_wp2_with (go_at_call 40;refine hc.mono ?_;rintro e w' ⟨rfl,h2⟩;have H2:=Hd h2;clear h2)
 go_ret;exact⟨rfl,H2.o⟩
theorem YB (h:jo w F A s) (hl:∀i,i<4->(s.kv i).length<=12) (gH:∀i,i<4->∀m,s.mv i=some m->m.cs.length<=1073741820) (k:ByteArray) (hs:k.size<=aE):
  aD prog 25 #[.pointer (some ⟨A.cl,0,none⟩),.string k] w (j4 w F A (.int .i64 (chE s k ⟨#[]⟩ true)) (chS s k ⟨#[]⟩ true)):=by
 have hc:=SX h hl gH k ⟨#[]⟩ true hs;generalize chS s k ⟨#[]⟩ true=s' at*;generalize chE s k ⟨#[]⟩ true=c at*;clear h hl gH;go_enter func25,ntmps25;go_wp2_with (go_at_call 40;refine hc.mono ?_;rintro e w' ⟨rfl,h2⟩;have H2:=Hd h2;clear h2)
 go_ret;exact⟨rfl,H2.o⟩
end
end Go.Proofs.YtkpekiajdlolnabGreat.Ph
namespace Go.Proofs.YtkpekiajdlolnabGreat
open Go.RowKit Go.Maps
section
variable {w w':aa} {F F':Nat->Prop} {A:PA} {s:St} {n:Nat}
theorem jo.turn (h:jo w F A s) (A':PA) (s':St) (hb:But (· =A.cl) w w') (mZ:w'.heap[A.cl]?=some (.cells (jw A' s') 83 (0,0))) (e1:A'.cl=A.cl) (e2:A'.db=A.db) (e3:A'.mb=A.mb) (e4:A'.sm=A.sm/\A'.sP=A.sP) (e5:s'.kv=s.kv) (e6:s'.sg=s.sg)
  (eu:∀i,i<4->(∀(b:Nat) (cur:Array ah) (ty:bo),w.heap[b]?=some (av cur ty (0,0))->ty≠83->w'.heap[b]?=w.heap[b]?)->lm w' F' A' i (s'.mv i)) (hF:∀b,F b->F' b)
  (ru:∀i j g,i<4->j<4->A'.mp i=some g->A'.mp j=some g->i=j) (vZ:∀i j g,i<4->j<4->(A'.cv i).ownBlock=some g->(A'.cv j).ownBlock=some g->i=j):jo w' F' A' s':=by
 have lt:∀{b:Nat} {o:Obj},w.heap[b]?=some o->b<w.heap.size:=λhb=>(yx hb).1;have gY:∀(b:Nat) (cur:Array ah) (ty:bo),w.heap[b]?=some (av cur ty (0,0))->ty≠83->w'.heap[b]?=w.heap[b]?:=λb cur ty eP n1=>hb.keep b (lt eP) λe=>by
  rw[e,h.cl.2]at eP;have e2:=xoi eP;injection e2 with _ e3;exact n1 e3.symm
 have nJ:∀b,(∃es ck,w.heap[b]?=some (Obj.map es ck))->w'.heap[b]?=w.heap[b]?:=λb ⟨es,ck,eP⟩=>hb.keep b (lt eP) λe=>by
  rw[e,h.cl.2]at eP;cases eP
 refine⟨⟨hF _ (e1▸h.cl.1),e1▸mZ⟩,λi hi=>?_,λi hi=>?_,by rw[e3];exact h.mbi,λi hi=>eu i hi gY,ru,vZ,?_,by rw[e3,e4.1];exact h.smb⟩
 ·rw[e2,e3];exact⟨hF _ (h.db i hi).1,(gY _ _ _ (h.db i hi).2 (by decide)).trans (h.db i hi).2⟩
 ·rw[e3,e5];obtain⟨es,ck,eP,_⟩:=(h.mb i hi).2;exact⟨hF _ (h.mb i hi).1,(h.mb i hi).2.block (nJ _ ⟨es,ck,eP⟩)⟩
 ·rw[e6];exact h.stg.keep (λb cur ty eP ht=>gY b cur ty eP (by rcases ht with rfl|rfl<;>decide)) (λb eP _=>nJ b eP) hF e4.1 e4.2 e3
theorem jo.drop (h:jo w F A s) (hn:n<4):jo (w.setCell ⟨A.cl,1+n*3+2,none⟩ (.pointer none)) F {A with mp:=qi A.mp n none,cv:=qi A.cv n (.slice none 0 0)} {s with mv:=qi s.mv n none}/\But F w (w.setCell ⟨A.cl,1+n*3+2,none⟩ (.pointer none)):=by
 have hs:=xhs w A.cl (1+n*3+2) _ _ (.pointer none) h.cl.2;have hb:But (· =A.cl) w (w.setCell ⟨A.cl,1+n*3+2,none⟩ (.pointer none)):=But.setCell (B:=(· =A.cl)) (But.refl _ _) rfl _ _;refine⟨h.turn _ _ hb ?_ rfl rfl rfl ⟨rfl,rfl⟩ rfl rfl (λi hi no=>?_) (λ_ h=>h) (λi j g hi hj h1 h2=>?_) (λi j g hi hj h1 h2=>?_),hb.mono λb e=>e▸h.cl.1⟩
 ·rw[hs];match n,hn with
  |0,_|1,_|2,_|3,_=>rfl
 ·show lm _ F _ i (qi s.mv n none i);by_cases e:i=n
  ·subst e;rw[qx];exact⟨qx ..,by show(qi A.cv i (.slice none 0 0) i).ownBlock=none;rw[qx];rfl⟩
  ·rw[qw _ _ e];have h0:=(h.mv i hi).keep (w':=w.setCell ⟨A.cl,1+n*3+2,none⟩ (.pointer none)) (λb c _ hb=>no b c _ hb (by decide)) (λb c _ hb=>no b c _ hb (by decide)) (λb c _ hb=>no b c _ hb (by decide));have e1:qi A.mp n none i=A.mp i:=qw _ _ e;have e2:qi A.cv n (.slice none 0 0) i=A.cv i:=qw _ _ e;cases hm:s.mv i with
   |none=>rw[hm]at h0;exact⟨e1.trans h0.1,by show(qi A.cv n (.slice none 0 0) i).ownBlock=none;rw[e2];exact h0.2⟩
   |some m=>
    rw[hm]at h0;obtain⟨g,z1,z2,z3,z4,z5,z6,z7⟩:=h0;refine⟨g,e1.trans z1,z2,?_,z4,?_,z6,?_⟩
    ·rw[z3];show _=some (av (qh i (A.pv i) (qi A.cv n (.slice none 0 0) i) (A.ld i) m) _ _);rw[e2]
    ·show qA _ (qi A.cv n (.slice none 0 0) i) m.cs;rw[e2];exact z5
    ·intro b hb;have hb:(qi A.cv n (.slice none 0 0) i).ownBlock=some b:=hb;rw[e2]at hb;exact z7 b hb
 ·have h1:qi A.mp n none i=some g:=h1;have h2:qi A.mp n none j=some g:=h2;by_cases e1:i=n
  ·subst e1;rw[qx]at h1;cases h1
  ·by_cases e2:j=n
   ·subst e2;rw[qx]at h2;cases h2
   ·rw[qw _ _ e1]at h1;rw[qw _ _ e2]at h2;exact h.mpi i j g hi hj h1 h2
 ·have h1:(qi A.cv n (.slice none 0 0) i).ownBlock=some g:=h1;have h2:(qi A.cv n (.slice none 0 0) j).ownBlock=some g:=h2;by_cases e1:i=n
  ·subst e1;rw[qx]at h1;cases h1
  ·by_cases e2:j=n
   ·subst e2;rw[qx]at h2;cases h2
   ·rw[qw _ _ e1]at h1;rw[qw _ _ e2]at h2;exact h.cvi i j g hi hj h1 h2
def movE (s:St) (k:Int):Int:=if k<0\/3<k then 8 else match s.mv k.toNat with
 |none=>11
 |some _=>0
theorem TW (k:Int) (hk:k<0\/3<k) (kD: -9223372036854775808<=k/\k<=9223372036854775807) (cl:Nat):aD prog 60 #[.pointer (some ⟨cl,0,none⟩),.int .i64 k] w λe w'=>e=.returned (.tuple #[.pointer none,.int .i64 8])/\w'=w:=by
 rcases bJ k 0 with h2|h2
 ·have g1:decide (k<0)=true:=xdt h2;go_enter func60,ntmps60;go_wp2;go_ret2;exact⟨rfl,rfl⟩
 ·have g1:decide (k<0)=false:=zu (by omega);have g2:decide (4<=k)=true:=xdt (by omega);go_enter func60,ntmps60;go_wp2;go_ret2;exact⟨rfl,rfl⟩
theorem CR (h:jo w F A s) (hn:n<4):aD prog 60 #[.pointer (some ⟨A.cl,0,none⟩),.int .i64 n] w λe w'=>(match s.mv n with
  |none=>e=.returned (.tuple #[.pointer none,.int .i64 11])
  |some _=>e=.returned (.tuple #[.pointer (some ⟨A.cl,1+n*3,none⟩),.int .i64 0]))/\w'=w:=by
 have Dh:((n:Int)<4):=by omega
 have g1:decide ((n:Int)<0)=false:=zu (by omega);have g2:decide ((4:Int)<=n)=false:=zu (by omega);have c:=(h.part n hn).v;have hm:=h.mv n hn;cases eu:s.mv n with
 |none=>
  rw[eu]at hm;rw[hm.1]at c;have c:w.cell? ⟨A.cl,1+n*3+2,none⟩=some (.pointer none):=c;clear hm h;go_enter func60,ntmps60;go_wp2;go_ret2;exact⟨rfl,rfl⟩
 |some m=>
  rw[eu]at hm;obtain⟨x,z1,_⟩:=hm;rw[z1]at c;have c:w.cell? ⟨A.cl,1+n*3+2,none⟩=some (.pointer (some ⟨x,0,none⟩)):=c;clear z1 h;go_enter func60,ntmps60;go_wp2;go_ret2;exact⟨rfl,rfl⟩
end
end Go.Proofs.YtkpekiajdlolnabGreat
namespace Go.Proofs.YtkpekiajdlolnabGreat.Ph
open Go.Conc Go.ConcN Go.RowKit Go.Maps Go.Conc.Lib Go Sim
def abE (s:St) (k:Int):Int:=if k<0\/3<k then 8 else match s.mv k.toNat with
 |none=>11
 |some m=>if m.sealed then 12 else 0
def abS (s:St) (k:Int):St:=if k<0\/3<k then s else match s.mv k.toNat with
 |none=>s
 |some m=>if m.sealed then s else{s with mv:=qi s.mv k.toNat none}
section
variable {w w':aa} {F:Nat->Prop} {A:PA} {s:St}
theorem q3n (h:jo w F A s) (k:Int) (kD: -9223372036854775808<=k/\k<=9223372036854775807):aD prog 33 #[.pointer (some ⟨A.cl,0,none⟩),.int .i64 k] w (j4 w F A (.int .i64 (abE s k)) (abS s k)):=by
 by_cases hk:k<0\/3<k
 ·have HE:Hid (abE s k=8/\abS s k=s):=Hd ⟨by unfold abE;rw[if_pos hk],by unfold abS;rw[if_pos hk]⟩;have H:=Hd h;rw[HE.1,HE.2];clear h;go_enter func33,ntmps33;go_wp2_with (go_at_call 60;refine(TW k hk kD A.cl).mono ?_;rintro e w' ⟨rfl,rfl⟩)
  go_ret;exact .idle H.o (zk _ _)
 ·obtain⟨n,rfl⟩:∃n:Nat,k=n:=⟨k.toNat,by omega⟩
  have hn:n<4:=by omega
  have iW:=CR h hn;have hm:=h.mv n hn;have hv:=(h.part n hn).v;have gH:=h.cells (1+n*3+2) _ (Gm A s n hn).2.2;cases eu:s.mv n with
  |none=>
   have HE:Hid (abE s (n:Int)=11/\abS s (n:Int)=s):=Hd ⟨by unfold abE;rw[if_neg hk,aC,eu],by unfold abS;rw[if_neg hk,aC,eu]⟩;have H:=Hd h;rw[HE.1,HE.2];rw[eu]at iW;clear h hm hv gH eu hk;go_enter func33,ntmps33;go_wp2_with (go_at_call 60;refine iW.mono ?_;rintro e w' ⟨rfl,rfl⟩)
   go_ret;exact .idle H.o (zk _ _)
  |some m=>
   rw[eu]at hm iW;obtain⟨x,z1,z2,z3,_⟩:=hm;rw[z1]at hv;replace hv:w.cell? ⟨A.cl,1+n*3+2,none⟩=some (.pointer (some ⟨x,0,none⟩)):=hv;have hf:=gH.2;have fP:w.cell? ⟨x,12,none⟩=some (.bool m.sealed):=by simp[ag,z3,qh]
   have HE:Hid (abE s (n:Int)=(if m.sealed then 12 else 0)/\abS s (n:Int)=if m.sealed then s else{s with mv:=qi s.mv n none}):=Hd ⟨by unfold abE;rw[if_neg hk,aC,eu],by unfold abS;rw[if_neg hk,aC,eu]⟩;have H:=Hd h;rw[HE.1,HE.2];clear h gH eu hk z1 z2 z3;cases hs:m.sealed
   ·rw[hs]at fP;rw[if_neg (by decide),if_neg (by decide)];clear hs;go_enter func33,ntmps33;go_wp2_with (go_at_call 60;refine iW.mono ?_;rintro e w' ⟨rfl,rfl⟩)
    go_ret;exact⟨rfl,{A with mp:=qi A.mp n none,cv:=qi A.cv n (.slice none 0 0)},rfl,(H.drop hn).1.mono λ_ h=>.inl h,(H.drop hn).2⟩
   ·rw[hs]at fP;rw[if_pos rfl,if_pos rfl];clear hs;go_enter func33,ntmps33;go_wp2_with (go_at_call 60;refine iW.mono ?_;rintro e w' ⟨rfl,rfl⟩)
    go_ret;exact .idle H.o (zk _ _)
end
end Go.Proofs.YtkpekiajdlolnabGreat.Ph
namespace Go.Proofs.YtkpekiajdlolnabGreat
open Go.RowKit Go.Maps
def bgM (s:St) (n to:Nat):Mv:=⟨s.id+1,s.ow n,to,s.kv n,[],[],0,0,0,false⟩
def bgS (s:St) (n to:Nat):St:={s with id:=s.id+1,mv:=qi s.mv n (some (bgM s n to))}
def mvE (s:St) (k to:Int):Int:=if k<0\/3<k then 8 else if to<0\/s.hosts<=to then 1 else if(s.mv k.toNat).isSome then 10 else if(s.ow k.toNat:Int)=to then 9 else 0
def mvS (s:St) (k to:Int):St:=if mvE s k to=0 then bgS s k.toNat to.toNat else s
section
variable {w w':aa} {F:Nat->Prop} {A:PA} {s:St} {n:Nat}
def bgA (A:PA) (n g:Nat) (pv:ah):PA:={A with mp:=qi A.mp n (some g),pv:=qi A.pv n pv,cv:=qi A.cv n (.slice none 0 0),ld:=qi A.ld n ⟨#[]⟩}
theorem lm.same {C:PA} {m:Option Mv} (h:lm w F A i m) (e1:C.mp i=A.mp i) (e2:C.pv i=A.pv i) (e3:C.cv i=A.cv i) (e4:C.ld i=A.ld i):lm w F C i m:=by
 cases m with
 |none=>exact⟨e1.trans h.1,by rw[e3];exact h.2⟩
 |some m=>
  obtain⟨g,h1,h2,h3,h4,h5,h6,h7⟩:=h;exact⟨g,e1.trans h1,h2,by rw[e2,e3,e4];exact h3,by rw[e2];exact h4,by rw[e3];exact h5,by rw[e2];exact h6,by rw[e3];exact h7⟩
theorem lm.Vg {g:Nat} {m:Option Mv} (h:lm w F A i m) (e:A.mp i=some g):g<w.heap.size:=by
 cases m with
 |none=>rw[h.1]at e;cases e
 |some m=>
  obtain⟨g',h1,h2,h3,_⟩:=h;rw[h1]at e;cases e;exact(yx h3).1
theorem qlr (A:PA) (s:St) (n to g:Nat) (pv:ah):n<4->((jw A s).setIfInBounds 14 (.int .i64 ((s.id+1:Nat):Int))).setIfInBounds (1+n*3+2) (.pointer (some ⟨g,0,none⟩))=jw (bgA A n g pv) (bgS s n to):=by
 intro hn;match n,hn with
 |0,_|1,_|2,_|3,_=>rfl
theorem jo.begin {g to:Nat} (h:jo w F A s) (hn:n<4) (hb:But (· =A.cl) w w') (mZ:w'.heap[A.cl]?=some (.cells (jw (bgA A n g pv) (bgS s n to)) 83 (0,0)))
  (hg:w'.heap[g]?=some (.cells (qh n pv (.slice none 0 0) ⟨#[]⟩ (bgM s n to)) 135 (0,0))) (lV:w.heap.size<=g) (hr:w'.ownsRow w.heap.size 74 2 pv (s.kv n).length (flat (s.kv n))):jo w' (λb=>F b\/w.heap.size<=b) (bgA A n g pv) (bgS s n to):=by
 refine h.turn (bgA A n g pv) (bgS s n to) hb mZ rfl rfl rfl ⟨rfl,rfl⟩ rfl rfl (λi hi no=>?_) (λ_ h=>.inl h) (λi j q hi hj h1 h2=>?_) (λi j q hi hj h1 h2=>?_)
 ·show lm w' _ _ i (qi s.mv n _ i);by_cases e:i=n
  ·subst e;rw[qx];have e1:(bgA A i g pv).pv i=pv:=qx ..;have e2:(bgA A i g pv).cv i=.slice none 0 0:=qx ..;have e3:(bgA A i g pv).ld i=⟨#[]⟩:=qx ..;refine⟨g,qx ..,.inr lV,by rw[e1,e2,e3];exact hg,?_,?_,λb fQ=>.inr ?_,λb fQ=>?_⟩
   ·rw[e1];exact za.of hr
   ·rw[e2];exact za.of (aL _ 0 _ _)
   ·rw[e1]at fQ;exact(hr.lt b fQ).1
   ·rw[e2]at fQ;cases fQ
  ·rw[qw _ _ e];exact(((h.mv i hi).keep (w':=w') (λb c _ hb=>no b c _ hb (by decide)) (λb c _ hb=>no b c _ hb (by decide)) (λb c _ hb=>no b c _ hb (by decide))).mono λ_ h=>.inl h).same (qw _ _ e) (qw _ _ e) (qw _ _ e) (qw _ _ e)
 ·replace h1:qi A.mp n (some g) i=some q:=h1;replace h2:qi A.mp n (some g) j=some q:=h2;by_cases e1:i=n
  ·by_cases e2:j=n
   ·omega
   ·subst e1;rw[qx]at h1;rw[qw _ _ e2]at h2;cases h1;have:=(h.mv j hj).Vg h2;omega
  ·rw[qw _ _ e1]at h1;by_cases e2:j=n
   ·subst e2;rw[qx]at h2;cases h2;have:=(h.mv i hi).Vg h1;omega
   ·rw[qw _ _ e2]at h2;exact h.mpi i j q hi hj h1 h2
 ·replace h1:(qi A.cv n (.slice none 0 0) i).ownBlock=some q:=h1;replace h2:(qi A.cv n (.slice none 0 0) j).ownBlock=some q:=h2;by_cases e1:i=n
  ·subst e1;rw[qx]at h1;cases h1
  ·by_cases e2:j=n
   ·subst e2;rw[qx]at h2;cases h2
   ·rw[qw _ _ e1]at h1;rw[qw _ _ e2]at h2;exact h.cvi i j q hi hj h1 h2
theorem qqt (h:jo w F A s) (hn:n<4) (e:wA=w.setCell ⟨A.cl,14,none⟩ (.int .i64 ((s.id+1:Nat):Int))):
  wA.cell? ⟨A.cl,14,none⟩=some (.int .i64 ((s.id+1:Nat):Int))/\wA.cell? ⟨A.cl,1+n*3,none⟩=some (.int .i64 (s.ow n))/\wA.cell? ⟨A.cl,1+n*3+1,none⟩=some (.pointer (some ⟨A.db n,0,none⟩))/\wA.cell? ⟨A.cl,1+n*3+2,none⟩=some (ptr (A.mp n))/\wA.frozen? ⟨A.cl,1+n*3+2,none⟩=false/\wA.cell? ⟨A.db n,0,none⟩=some (.map (some (A.mb n)))/\jv wA (A.mb n) (s.kv n)/\wA.heap[A.cl]?=some (.cells ((jw A s).setIfInBounds 14 (.int .i64 ((s.id+1:Nat):Int))) 83 (0,0))/\wA.heap.size=w.heap.size/\But (· =A.cl) w wA:=by
 have hs:=xhs w A.cl 14 _ _ (.int .i64 ((s.id+1:Nat):Int)) h.cl.2;have ho:∀b,b≠A.cl->wA.heap[b]?=w.heap[b]?:=λb hb=>by rw[e];exact xho w _ b _ hb
 have hd:A.db n≠A.cl:=λe2=>by
  have:=(h.db n hn).2;rw[e2,h.cl.2]at this;have e3:=xoi this;injection e3 with _ e4;exact absurd e4 (by decide)
 have hm:A.mb n≠A.cl:=λe2=>zx (h.mb n hn).2 h.cl.2 e2.symm;rw[<-e]at hs;obtain⟨p1,p2,p3⟩:=Gm A s n hn;refine⟨by simp[ag,hs,jw],?_,?_,?_,by simp[aF,hs],by rw[xcb (ho _ hd)];simp[ag,(h.db n hn).2],(h.mb n hn).2.block (ho _ hm),hs,by rw[e];simp,by rw[e];exact But.setCell (B:=(· =A.cl)) (But.refl _ _) rfl _ _⟩;all_goals
  simp only[ag,hs];rw[xne (by omega)]
 ·simp[p1]
 ·simp[p2,ptr]
 ·simp[p3]
theorem Ze {g:Nat} {id ow:Int} (hn:n<4) (h8:wA.heap[A.cl]?=some (.cells ((jw A s).setIfInBounds 14 (.int .i64 ((s.id+1:Nat):Int))) 83 (0,0))) (hb:au wA.heap.size wA w1) (lV:wA.heap.size<=g)
  (hg:w1.heap[g]?=some (.cells #[.int .i64 id,.int .i64 ow,.int .i64 to,pv,.slice none 0 0,.int .u8 0,.int .i64 0,.int .i64 0,.int .i64 0,.string ⟨#[]⟩,.string ⟨#[]⟩,.int .i64 0,.bool false] 135 (0,0))) (e:w2=w1.setCell ⟨A.cl,1+n*3+2,none⟩ (.pointer (some ⟨g,0,none⟩))):
  w2.cell? ⟨A.cl,1+n*3+2,none⟩=some (.pointer (some ⟨g,0,none⟩))/\w2.cell? ⟨A.cl,14,none⟩=some (.int .i64 ((s.id+1:Nat):Int))/\w2.cell? ⟨g,5,none⟩=some (.int .u8 0)/\w2.cell? ⟨g,6,none⟩=some (.int .i64 0)/\w2.cell? ⟨g,7,none⟩=some (.int .i64 0)/\w2.cell? ⟨g,8,none⟩=some (.int .i64 0)/\w2.cell? ⟨g,9,none⟩=some (.string ⟨#[]⟩)/\(∀j,w2.frozen? ⟨g,j,none⟩=false)/\
   w2.heap[A.cl]?=some (.cells (((jw A s).setIfInBounds 14 (.int .i64 ((s.id+1:Nat):Int))).setIfInBounds (1+n*3+2) (.pointer (some ⟨g,0,none⟩))) 83 (0,0))/\w2.heap[g]?=w1.heap[g]?/\g≠A.cl:=by
 have dY:=(yx h8).1;have eB:g≠A.cl:=by omega
 have h1:=(hb.block _ dY).trans h8;have hs:=xhs w1 A.cl (1+n*3+2) _ _ (.pointer (some ⟨g,0,none⟩)) h1;have ho:w2.heap[g]?=w1.heap[g]?:=by rw[e];exact xho w1 _ g _ eB
 rw[<-e]at hs;have iH:=ho.trans hg;have eU:(jw A s).size=16:=rfl;refine⟨?_,?_,by simp[ag,iH],by simp[ag,iH],by simp[ag,iH],by simp[ag,iH],by simp[ag,iH],λj=>by simp[aF,iH],hs,ho,eB⟩
 ·simp only[ag,hs];rw[xsl (by simp[eU];omega)];rfl
 ·simp only[ag,hs];rw[xne (by omega),xsl (by simp[eU])];rfl
theorem Zf {g to:Nat} (h:jo w F A s) (hn:n<4) (nE:But (· =A.cl) w wA) (hz:wA.heap.size=w.heap.size) (hb:au wA.heap.size wA w1) (lV:wA.heap.size<=g)
  (hg:w1.heap[g]?=some (.cells #[.int .i64 ((s.id+1:Nat):Int),.int .i64 (s.ow n),.int .i64 to,pv,.slice none 0 0,.int .u8 0,.int .i64 0,.int .i64 0,.int .i64 0,.string ⟨#[]⟩,.string ⟨#[]⟩,.int .i64 0,.bool false] 135 (0,0)))
  (hr:w1.ownsRow wA.heap.size 74 2 pv (s.kv n).length (flat (s.kv n))) (e:w2=w1.setCell ⟨A.cl,1+n*3+2,none⟩ (.pointer (some ⟨g,0,none⟩)))
  (hc:w2.heap[A.cl]?=some (.cells (((jw A s).setIfInBounds 14 (.int .i64 ((s.id+1:Nat):Int))).setIfInBounds (1+n*3+2) (.pointer (some ⟨g,0,none⟩))) 83 (0,0))) (ho:w2.heap[g]?=w1.heap[g]?) (eB:g≠A.cl)
  (e3:w3=((((w2.setCell ⟨g,5,none⟩ (.int .u8 0)).setCell ⟨g,6,none⟩ (.int .i64 n)).setCell ⟨g,7,none⟩ (.int .i64 ((s.id:Int)+1))).setCell ⟨g,8,none⟩ (.int .i64 0)).setCell ⟨g,9,none⟩ (.string ⟨#[]⟩)):
  jo w3 (λb=>F b\/w.heap.size<=b) (bgA A n g pv) (bgS s n to)/\But F w w3:=by
 have k1:=xhs w2 g 5 _ _ (.int .u8 0) (ho.trans hg);have k2:=xhs _ g 6 _ _ (.int .i64 n) k1;have k3:=xhs _ g 7 _ _ (.int .i64 ((s.id:Int)+1)) k2;have k4:=xhs _ g 8 _ _ (.int .i64 0) k3;have k5:=xhs _ g 9 _ _ (.string ⟨#[]⟩) k4;have Vb:∀b,b≠g->w3.heap[b]?=w2.heap[b]?:=λb hb=>by
  rw[e3,xho _ _ _ _ hb,xho _ _ _ _ hb,xho _ _ _ _ hb,xho _ _ _ _ hb,xho _ _ _ _ hb]
 rw[<-e3]at k5;have Ch:But (λb=>b=A.cl\/w.heap.size<=b) w w3:=by
  rw[e3,e];refine But.setCell (But.setCell (But.setCell (But.setCell (But.setCell (But.setCell ((nE.mono λb h=>.inl h).trans (But.of_below (B:=λb=>b=A.cl\/w.heap.size<=b) hb)) (.inl rfl) _ _) ?_ _ _) ?_ _ _) ?_ _ _) ?_ _ _) ?_ _ _;all_goals exact .inr (by omega)
 have VP:But (· =A.cl) w w3:=⟨Ch.size,λb hb hn=>Ch.keep b hb λx=>x.elim hn λy=>by omega,Ch.os,Ch.output⟩
 have nG:w3.ownsRow w.heap.size 74 2 pv (s.kv n).length (flat (s.kv n)):=by
  rw[hz]at hr;refine jd hr λq hq=>?_;have hqg:q≠g:=λx=>by
   obtain⟨c,KH⟩:=wS hr hq;rw[x,hg]at KH;have e2:=xoi KH;injection e2 with _ e4;exact absurd e4 (by decide)
  have hqc:q≠A.cl:=λx=>by
   have:=(hr.lt q hq).1;have:=h.clt;omega
  rw[Vb q hqg,e];exact xho _ _ _ _ hqc
 refine⟨h.begin hn VP ?_ (k5.trans rfl) (by omega) nG,VP.mono λb e=>e▸h.cl.1⟩;rw[Vb A.cl λx=>eB x.symm,hc,qlr A s n to g pv hn]
end
end Go.Proofs.YtkpekiajdlolnabGreat
namespace Go.Proofs.YtkpekiajdlolnabGreat.Ph
open Go.Conc Go.ConcN Go.RowKit Go.Maps Go.Conc.Lib Go Sim
section
variable {w w':aa} {F:Nat->Prop} {A:PA} {s:St} {n:Nat}
theorem Sj (h:jo w F A s) (hn:n<4) (ou:zm (s.kv n)) (hL:(s.kv n).length<=12) (iQ:∀p∈s.kv n,p.1.length<=aE) (to:Nat) (hid:s.id<=4611686018427387904):
  aD prog 58 #[.pointer (some ⟨A.cl,0,none⟩),.pointer (some ⟨A.cl,1+n*3,none⟩),.int .i64 n,.int .i64 to] w (j4 w F A (.tuple #[]) (bgS s n to)):=by
 have c14:w.cell? ⟨A.cl,14,none⟩=some (.int .i64 s.id):=(h.cells 14 _ rfl).1;have f14:=(h.cells 14 (.int .i64 s.id) rfl).2;have H:=Hd h;have HR:=Hd (ac ou (ac hL iQ));have hid2:((s.id:Int)+1<=9223372036854775807):=by omega
 clear h ou hL iQ;go_enter func58,ntmps58;go_wp2;have Wd:w.setCell ⟨A.cl,14,none⟩ (.int .i64 ((s.id:Int)+1))=w.setCell ⟨A.cl,14,none⟩ (.int .i64 ((s.id+1:Nat):Int)):=rfl;obtain⟨a1,a2,a3,a4,a5,a6,a7,a8,a9,pO⟩:=qqt H.o hn Wd;have O6:=Hd (ac a8 (ac a9 pO));generalize w.setCell ⟨A.cl,14,none⟩ (.int .i64 ((s.id:Int)+1))=wA at*;clear Wd a8 a9 pO c14 f14;change bP _ (aQ 1 bg1 true) _ _ _;refine jhe (cl:=A.cl) (n:=n) (db:=A.db n) (mb:=A.mb n) (id:=s.id+1) (ow:=s.ow n) (to:=to) (L:=s.kv n) rfl rfl rfl rfl rfl a1 a2 a3 ⟨_,a4⟩ a5 a6 a7 HR.1 HR.2.1 HR.2.2 λy w1 g sa c hy gK lV hg hr=>?_;have y0:y 0=.pointer (some ⟨A.cl,0,none⟩):=hy 0 (qz (by kernel_rfl));have y1:y 1=.pointer (some ⟨A.cl,1+n*3,none⟩):=hy 1 (qz (by kernel_rfl));have y2:y 2=.int .i64 n:=hy 2 (qz (by kernel_rfl));rw[ji9,y0,y1,y2];obtain⟨w2,qW⟩:∃w2,w1.setCell ⟨A.cl,1+n*3+2,none⟩ (.pointer (some ⟨g,0,none⟩))=w2:=⟨_,rfl⟩
 rw[qW];obtain⟨d1,d2,d5,d6,d7,d8,d9,fr,z1,z2,z3⟩:=Ze hn O6.1 gK lV hg qW.symm;have HE:=Hd (λw3=>Zf (w3:=w3) H.o hn O6.2.2 O6.2.1 gK lV hg hr qW.symm z1 z2 z3);clear z1 z2 z3;clear hy y0 y1 y2 a1 a2 a3 a4 a5 a6 a7 gK lV hg hr qW;go_wp2;refine aM 12 (by kernel_rfl) (by kernel_rfl) ?_;change wpStill _ _ w2.drew (λa'=>wpList _ _ _ _ a' w2.drew) _ _;simp only[aj,bj,aN,bk];repeat still_step
 refine bw ?_;go_wp2;go_end0;have HF:=Hd (HE.o _ rfl);exact⟨rfl,bgA A n g _,rfl,HF.1.below (aZ (zk _ _)),HF.2.drew⟩
theorem Q8 {k:Int} (hk:k<0\/3<k):mvE s k to=8/\mvS s k to=s:=by
 have h:mvE s k to=8:=by unfold mvE;rw[if_pos hk]
 exact⟨h,by unfold mvS;rw[h];rfl⟩
theorem Sm {k:Int} (hk:¬(k<0\/3<k)) (ht:to<0\/s.hosts<=to):mvE s k to=1/\mvS s k to=s:=by
 have h:mvE s k to=1:=by unfold mvE;rw[if_neg hk,if_pos ht]
 exact⟨h,by unfold mvS;rw[h];rfl⟩
theorem RJ (hn:n<4) (ht:¬(to<0\/s.hosts<=to)) {m:Mv} (hm:s.mv n=some m):mvE s n to=10/\mvS s n to=s:=by
 have h:mvE s n to=10:=by unfold mvE;rw[if_neg (by omega),if_neg ht,aC,hm];rfl
 exact⟨h,by unfold mvS;rw[h];rfl⟩
theorem RI (hn:n<4) (ht:¬(to<0\/s.hosts<=to)) (hm:s.mv n=none) (ho:(s.ow n:Int)=to):mvE s n to=9/\mvS s n to=s:=by
 have h:mvE s n to=9:=by unfold mvE;rw[if_neg (by omega),if_neg ht,aC,hm,if_neg (by decide),if_pos ho]
 exact⟨h,by unfold mvS;rw[h];rfl⟩
theorem UN {to:Nat} (hn:n<4) (ht:to<s.hosts) (hm:s.mv n=none) (ho:s.ow n≠to):mvE s n to=0/\mvS s n to=bgS s n to:=by
 have h:mvE s n to=0:=by unfold mvE;rw[if_neg (by omega),if_neg (by omega),aC,hm,if_neg (by decide),if_neg (by omega)]
 exact⟨h,by unfold mvS;rw[h,if_pos rfl];rfl⟩
theorem q9f (h:jo w F A s) (ou:∀i,i<4->zm (s.kv i)) (hL:∀i,i<4->(s.kv i).length<=12) (iQ:∀i,i<4->∀p∈s.kv i,p.1.length<=aE) (hid:s.id<=4611686018427387904) (k to:Int) (kD: -9223372036854775808<=k/\k<=9223372036854775807) (ht2: -9223372036854775808<=to/\to<=9223372036854775807):
  aD prog 31 #[.pointer (some ⟨A.cl,0,none⟩),.int .i64 k,.int .i64 to] w (j4 w F A (.int .i64 (mvE s k to)) (mvS s k to)):=by
 by_cases hk:k<0\/3<k
 ·rw[(Q8 hk).1,(Q8 hk).2];have H:=Hd h;clear h ou hL iQ hid;rcases bJ k 0 with h2|h2
  ·have g1:decide (k<0)=true:=xdt h2;go_enter func31,ntmps31;go_wp2;go_ret;exact .idle H.o (zk _ _)
  ·have g1:decide (k<0)=false:=zu (by omega);have g2:decide (4<=k)=true:=xdt (by omega);go_enter func31,ntmps31;go_wp2;go_ret;exact .idle H.o (zk _ _)
 have c0:w.cell? ⟨A.cl,0,none⟩=some (.int .i64 s.hosts):=(h.cells 0 _ rfl).1;obtain⟨n,rfl⟩:∃n:Nat,k=n:=⟨k.toNat,by omega⟩
 have hn:n<4:=by omega
 have Dh:((n:Int)<4):=by omega
 have g1:decide ((n:Int)<0)=false:=zu (by omega);have g2:decide ((4:Int)<=n)=false:=zu (by omega);by_cases ht:to<0\/s.hosts<=to
 ·rw[(Sm hk ht).1,(Sm hk ht).2];have H:=Hd h;clear h ou hL iQ hid;rcases bJ to 0 with h2|h2
  ·have g3:decide (to<0)=true:=xdt h2;go_enter func31,ntmps31;go_wp2;go_ret;exact .idle H.o (zk _ _)
  ·have g3:decide (to<0)=false:=zu (by omega);have g4:decide ((s.hosts:Int)<=to)=true:=xdt (by omega);go_enter func31,ntmps31;go_wp2;go_ret;exact .idle H.o (zk _ _)
 obtain⟨to,rfl⟩:∃q:Nat,to=q:=⟨to.toNat,by omega⟩
 have g3:decide ((to:Int)<0)=false:=zu (by omega);have g4:decide (s.hosts<=to)=false:=zu (by omega);have cO:=(h.cells (1+n*3) _ (Gm A s n hn).1).1;have cV:=(h.part n hn).v;have hm:=h.mv n hn;cases eu:s.mv n with
 |some m=>
  rw[(RJ hn ht eu).1,(RJ hn ht eu).2];rw[eu]at hm;obtain⟨x,z1,_⟩:=hm;rw[z1]at cV;replace cV:w.cell? ⟨A.cl,1+n*3+2,none⟩=some (.pointer (some ⟨x,0,none⟩)):=cV;have H:=Hd h;clear h ou hL iQ hid z1 eu hk ht;go_enter func31,ntmps31;go_wp2;go_ret;exact .idle H.o (zk _ _)
 |none=>
  rw[eu]at hm;rw[hm.1]at cV;replace cV:w.cell? ⟨A.cl,1+n*3+2,none⟩=some (.pointer none):=cV;by_cases ho:s.ow n=to
  ·rw[(RI hn ht eu (by omega)).1,(RI hn ht eu (by omega)).2];have H:=Hd h;rw[ho]at cO;clear h ou hL iQ hid hm eu hk ht ho;go_enter func31,ntmps31;go_wp2;go_ret;exact .idle H.o (zk _ _)
  ·have g5:(s.ow n==to)=false:=by simpa using ho
   have hb:=Sj h hn (ou n hn) (hL n hn) (iQ n hn) to hid;rw[(UN hn (by omega) eu ho).1,(UN hn (by omega) eu ho).2];have HB:=Hd hb;clear h ou hL iQ hid hm eu hk ht ho hb;go_enter func31,ntmps31;go_wp2_with (go_at_call 58;refine HB.mono ?_;rintro e w' ⟨rfl,h2⟩;have H2:=Hd h2;clear h2)
   go_ret;exact⟨rfl,H2.o⟩
end
end Go.Proofs.YtkpekiajdlolnabGreat.Ph
namespace Go.Proofs.YtkpekiajdlolnabGreat
open Go.RowKit Go.Maps
def cat (L:Nat->KV) (f:Bs×Bs->Bool):Nat->KV
 |0=>[]
 |i+1=>cat L f i++(L i).filter f
def q9w (L:Nat->KV) (f:Bs×Bs->Bool) (most:Nat) (i j:Nat):KV:=(cat L f i++((L i).take j).filter f).take most
structure ScW (W:aa) (ml sb:Nat) (lv:Nat->ah) (mp:Nat->Option Addr) (L:Nat->KV) (f:Bs×Bs->Bool) (most i j:Nat) (out:ah) (w:aa):Prop where
 row:jU w W.heap.size out (q9w L f most i j)
 below:au W.heap.size W w
 mdl:Mdl w ml sb lv mp L
section
variable {w:aa} {ml sb:Nat} {lv:Nat->ah} {mp:Nat->Option Addr} {L:Nat->KV} {f:Bs×Bs->Bool} {most i j:Nat} {out:ah}
end
def nxM (n:Nat) (m:Mv):Mv:={m with kind:=1,sent:=(Ph.frB 1 n m.id 0 ⟨#[]⟩).data.toList}
def nxV (s:St) (k:Int):Bs:=if k<0\/3<k then[]else match s.mv k.toNat with
 |none=>[]
 |some m=>if m.sent.isEmpty then(nxM k.toNat m).sent else m.sent
def nxE (s:St) (k:Int):Int:=if k<0\/3<k then 8 else match s.mv k.toNat with
 |none=>11
 |some _=>0
section
variable {w w':aa} {F:Nat->Prop} {A:PA} {s:St} {n x:Nat}
theorem zb {a b:Array ah} {t u:bo} {p q:Nat×Nat} (h:some (av a t p)=some (av b u q)):t=u:=by
 have e:=xoi h;injection e
theorem jo.mvb {m m':Mv} {ld':ByteArray} (h:jo w F A s) (hn:n<4) (eu:s.mv n=some m) (ru:A.mp n=some x) (hb:But (· =x) w w') (hx:w'.heap[x]?=some (.cells (qh n (A.pv n) (A.cv n) ld' m') 135 (0,0))) (e1:m'.ps=m.ps) (e2:m'.cs=m.cs):
  jo w' F {A with ld:=qi A.ld n ld'} {s with mv:=qi s.mv n (some m')}:=by
 have h0:=h.mv n hn;rw[eu]at h0;obtain⟨g,z1,z2,z3,z4,z5,z6,z7⟩:=h0;rw[ru]at z1;cases z1;have lt:∀{b:Nat} {o:Obj},w.heap[b]?=some o->b<w.heap.size:=λhb=>(yx hb).1;have gY:∀(b:Nat) (c:Array ah) (ty:bo),w.heap[b]?=some (av c ty (0,0))->ty≠135->w'.heap[b]?=w.heap[b]?:=λb c ty eP n1=>hb.keep b (lt eP) λe=>by
  rw[e,z3]at eP;exact n1 (zb eP).symm
 have nJ:∀b,(∃es ck,w.heap[b]?=some (Obj.map es ck))->w'.heap[b]?=w.heap[b]?:=λb ⟨es,ck,eP⟩=>hb.keep b (lt eP) λe=>by
  rw[e,z3]at eP;cases eP
 refine⟨⟨h.cl.1,(gY _ _ _ h.cl.2 (by decide)).trans h.cl.2⟩,λi hi=>⟨(h.db i hi).1,(gY _ _ _ (h.db i hi).2 (by decide)).trans (h.db i hi).2⟩,λi hi=>⟨(h.mb i hi).1,?_⟩,h.mbi,λi hi=>?_,h.mpi,h.cvi,h.stg.keep (λb cur ty eP ht=>gY b cur ty eP (by rcases ht with rfl|rfl<;>decide)) (λb eP _=>nJ b eP) (λ_ h=>h) rfl rfl rfl,h.smb⟩
 ·obtain⟨es,ck,eP,_⟩:=(h.mb i hi).2;exact(h.mb i hi).2.block (nJ _ ⟨es,ck,eP⟩)
 ·show lm w' F _ i (qi s.mv n _ i);by_cases e:i=n
  ·subst e;rw[qx];refine⟨x,ru,z2,?_,?_,?_,z6,z7⟩
   ·rw[hx];show _=some (av (qh i (A.pv i) (A.cv i) (qi A.ld i ld' i) m') _ _);rw[qx]
   ·rw[e1];exact z4.block λb hb=>by
     obtain⟨c,hc⟩:=za.ty z4 hb;exact gY b c _ hc (by decide)
   ·rw[e2];exact z5.block λb hb=>by
     obtain⟨c,hc⟩:=za.ty z5 hb;exact gY b c _ hc (by decide)
  ·rw[qw _ _ e];exact((h.mv i hi).keep (λb c iW eP=>hb.keep b (lt eP) λe2=>e (h.mpi i n b hi hn iW (by rw[ru,e2]))) (λb c _ hb=>gY b c _ hb (by decide)) (λb c _ hb=>gY b c _ hb (by decide))).same rfl rfl rfl (qw _ _ e)
end
end Go.Proofs.YtkpekiajdlolnabGreat
namespace Go.Proofs.YtkpekiajdlolnabGreat.Ph
open Go.Conc Go.ConcN Go.RowKit Go.Maps Go.Conc.Lib Go Sim
section
variable {w w':aa} {F:Nat->Prop} {A:PA} {s:St} {n x:Nat}
structure NxW (w0:aa) (x n:Nat) (pv cv:ah) (m:Mv) (w:aa):Prop where
 b:w.heap[x]?=some (.cells (qh n pv cv ⟨#[]⟩ {m with kind:=1}) 135 (0,0))
 but:But (· =x) w0 w
end
end Go.Proofs.YtkpekiajdlolnabGreat.Ph
namespace Go.Proofs.YtkpekiajdlolnabGreat
open Go.RowKit Go.Maps
section
variable {w:aa}
def pq (w:aa):aa:=(w.alloc (.map #[] 0)).alloc (.cells #[.map (some w.heap.size)] 142)
theorem Mh:aD prog 39 #[] w λe w'=>e=.returned (.pointer (some ⟨w.heap.size+1,0,none⟩))/\w'=pq w:=by
 have Oj:= @run_makeMap prog;go_enter func39,ntmps39;go_wp2;go_ret;exact⟨rfl,rfl⟩
theorem heap_alloc_new' (w:aa) (o:Obj) (h:n=w.heap.size):(w.alloc o).heap[n]?=some o:=by subst h;exact az w o
theorem Mi {w':aa} (h:w'.heap[mb]?=some (.map #[] 0)):jv w' mb []:=by
 have h0:(({w' with heap:=#[]}:aa).alloc (.map #[] 0)).ownsMap prog 9 Rv 0 0 (DM []):=World.ownsMap_made _ _ _ _;obtain⟨es,ck,h1,F⟩:=h0;have h2:(({w' with heap:=#[]}:aa).alloc (.map #[] 0)).heap[0]?=some (.map #[] 0):=rfl;rw[h2]at h1;cases h1;exact⟨#[],0,h,F⟩
end
section
variable {w w':aa} {F F':Nat->Prop} {A:PA} {s:St} {n h k:Nat}
theorem But.drewN (h:But B w w') (n:Nat):But B w (w'.drewN n):=⟨h.size,h.keep,h.os,h.output⟩
theorem jo.idle (p:jo w F A s) (hb:But (λ_=>False) w w'):jo w' F A s:=(p.lts.frame λb fQ=>hb.keep b fQ.2 λx=>x).mono λ_ h=>h.1
theorem jo.NG {sP':Nat->Nat->Nat×Nat×Nat} {sg':Nat->Nat->Option Sg} (p:jo w F A s) (hb:But B w w') (hF:∀b,F b->F' b)
  (hB:∀b,B b->b<w.heap.size->(∃cur,w.heap[b]?=some (av cur 157 (0,0)))\/b=A.sm\/∃x y,x<4/\y<4/\(s.sg x y).isSome=true/\b=(A.sP x y).2.2) (hs:qM w' F' {A with sP:=sP'} sg'):jo w' F' {A with sP:=sP'} {s with sg:=sg'}:=by
 have lt:∀{b:Nat} {o:Obj},w.heap[b]?=some o->b<w.heap.size:=λhb=>(yx hb).1;have gY:∀(b:Nat) (cur:Array ah) (ty:bo),w.heap[b]?=some (av cur ty (0,0))->ty≠157->w'.heap[b]?=w.heap[b]?:=λb cur ty eP n1=>hb.keep b (lt eP) λe=>by
  rcases hB b e (lt eP)with⟨c,e2⟩|e2|⟨x,y,hx,hy,hz,e2⟩
  ·rw[e2]at eP;exact n1 (zb eP).symm
  ·exact p.stg.m.ty eP e2
  ·obtain⟨v,hv⟩:=bp.1 hz;exact zx (p.stg.e x y v hx hy hv).2.m eP e2
 have nJ:∀i,i<4->w'.heap[A.mb i]?=w.heap[A.mb i]?:=λi hi=>hb.keep _ (p.mb i hi).2.lt λe=>by
  rcases hB _ e (p.mb i hi).2.lt with⟨c,e2⟩|e2|⟨x,y,hx,hy,hz,e2⟩
  ·exact zx (p.mb i hi).2 e2 rfl
  ·exact p.smb i hi e2
  ·exact(p.stg.n x y hx hy hz).2 i hi e2
 refine⟨⟨hF _ p.cl.1,(gY _ _ _ p.cl.2 (by decide)).trans p.cl.2⟩,λi hi=>⟨hF _ (p.db i hi).1,(gY _ _ _ (p.db i hi).2 (by decide)).trans (p.db i hi).2⟩,λi hi=>⟨hF _ (p.mb i hi).1,(p.mb i hi).2.block (nJ i hi)⟩,p.mbi,λi hi=>?_,p.mpi,p.cvi,hs,p.smb⟩;exact(((p.mv i hi).keep (λb c _ hb=>gY b c _ hb (by decide)) (λb c _ hb=>gY b c _ hb (by decide)) (λb c _ hb=>gY b c _ hb (by decide))).mono hF).same rfl rfl rfl rfl
theorem jo.jfl {sb db id next:Nat} {kv:KV} (p:jo w1 F A s) (hh:h<4) (hk:k<4) (hb:But (· =A.sm) w1 w') (hm:jY w' A.sm (zo (λh k=>(s.sg h k).map λ_=>(A.sP h k).1) h k (some sb)))
  (hs:iO w' sb db mb id next false kv) (lV:w.heap.size<=sb/\w.heap.size<=db/\w.heap.size<=mb) (hold:∀b,F b->b<w.heap.size) (eU:w.heap.size<=w1.heap.size):jo w' (λb=>F b\/w.heap.size<=b) {A with sP:=λa b=>if a=h/\b=k then(sb,db,mb)else A.sP a b} {s with sg:=zo s.sg h k (some ⟨id,next,kv,false⟩)}:=by
 have old:∀a b x,a<4->b<4->s.sg a b=some x->(A.sP a b).1<w.heap.size/\(A.sP a b).2.2<w.heap.size:=λa b x ha hb hx=>⟨hold _ (p.stg.e a b x ha hb hx).1.1,hold _ (p.stg.e a b x ha hb hx).1.2.2⟩
 have olds:∀a b,a<4->b<4->(s.sg a b).isSome=true->(A.sP a b).1<w.heap.size/\(A.sP a b).2.2<w.heap.size:=λa b ha hb hz=>by
  obtain⟨v,hv⟩:=bp.1 hz;exact old a b v ha hb hv
 have keep:∀b,F b->b≠A.sm->w'.heap[b]?=w1.heap[b]?:=λb hf eB=>hb.keep b (xll (hold b hf) eU) eB;refine p.NG hb (λ_ h=>.inl h) (λb e _=>.inr (.inl e)) ⟨.inl p.stg.f,?_,λa b x ha hb hx=>?_,λa b c d ha hb hc hd h1 h2 h3=>?_,λa b ha hb hz=>?_⟩
 ·have e:(λa b=>(zo s.sg h k (some ⟨id,next,kv,false⟩) a b).map λ_=>(if a=h/\b=k then(sb,db,mb)else A.sP a b).1)=zo (λh k=>(s.sg h k).map λ_=>(A.sP h k).1) h k (some sb):=by
   funext a b;unfold zo;by_cases e:a=h/\b=k
   ·simp only[if_pos e];rfl
   ·simp only[if_neg e]
  show jY w' A.sm (λa b=>(zo s.sg h k (some ⟨id,next,kv,false⟩) a b).map λ_=>(if a=h/\b=k then(sb,db,mb)else A.sP a b).1);rw[e];exact hm
 ·replace hx:zo s.sg h k (some ⟨id,next,kv,false⟩) a b=some x:=hx;by_cases e:a=h/\b=k
  ·obtain⟨rfl,rfl⟩:=e;rw[ku]at hx;cases hx;show(_/\_/\_)/\iO w' (if a=a/\b=b then(sb,db,mb)else A.sP a b).1 (if a=a/\b=b then(sb,db,mb)else A.sP a b).2.1 (if a=a/\b=b then(sb,db,mb)else A.sP a b).2.2 _ _ _ _;simp only[and_self,if_true];exact⟨⟨.inr lV.1,.inr lV.2.1,.inr lV.2.2⟩,hs⟩
  ·rw[ze e]at hx;obtain⟨⟨h1,h2,h3⟩,h4⟩:=p.stg.e a b x ha hb hx;show(_/\_/\_)/\iO w' (if a=h/\b=k then(sb,db,mb)else A.sP a b).1 (if a=h/\b=k then(sb,db,mb)else A.sP a b).2.1 (if a=h/\b=k then(sb,db,mb)else A.sP a b).2.2 _ _ _ _;simp only[if_neg e];exact⟨⟨.inl h1,.inl h2,.inl h3⟩,h4.block λq hq=>keep q (by rcases hq with rfl|rfl|rfl<;>assumption) (by
    rcases hq with rfl|rfl|rfl
    ·exact p.stg.m.ty h4.s
    ·exact p.stg.m.ty h4.d
    ·exact λe2=>(p.stg.n a b ha hb (by rw[hx];rfl)).1 e2.symm)⟩
 ·replace h1:(zo s.sg h k (some ⟨id,next,kv,false⟩) a b).isSome=true:=h1;replace h2:(zo s.sg h k (some ⟨id,next,kv,false⟩) c d).isSome=true:=h2;replace h3:(if a=h/\b=k then(sb,db,mb)else A.sP a b).1=(if c=h/\d=k then(sb,db,mb)else A.sP c d).1\/(if a=h/\b=k then(sb,db,mb)else A.sP a b).2.2=(if c=h/\d=k then(sb,db,mb)else A.sP c d).2.2:=h3;by_cases e1:a=h/\b=k
  ·by_cases e2:c=h/\d=k
   ·omega
   ·rw[ze e2]at h2;have:=olds c d hc hd h2;simp only[if_pos e1,if_neg e2]at h3;omega
  ·rw[ze e1]at h1;by_cases e2:c=h/\d=k
   ·have:=olds a b ha hb h1;simp only[if_pos e2,if_neg e1]at h3;omega
   ·rw[ze e2]at h2;simp only[if_neg e2,if_neg e1]at h3;exact p.stg.i a b c d ha hb hc hd h1 h2 h3
 ·replace hz:(zo s.sg h k (some ⟨id,next,kv,false⟩) a b).isSome=true:=hz;show A.sm≠(if a=h/\b=k then(sb,db,mb)else A.sP a b).2.2/\∀i,i<4->A.mb i≠(if a=h/\b=k then(sb,db,mb)else A.sP a b).2.2;by_cases e:a=h/\b=k
  ·simp only[if_pos e];have h1:=hold _ p.stg.f;exact⟨by omega,λi hi=>by have:=hold _ (p.mb i hi).1;omega⟩
  ·simp only[if_neg e];rw[ze e]at hz;exact p.stg.n a b ha hb hz
theorem jo.jfm {x:Sg} {id next:Nat} {done:Bool} {kv:KV} (p:jo w F A s) (hh:h<4) (hk:k<4) (hx:s.sg h k=some x) (hb:But (λb=>b=(A.sP h k).1\/b=(A.sP h k).2.2) w w') (hs:iO w' (A.sP h k).1 (A.sP h k).2.1 (A.sP h k).2.2 id next done kv):
  jo w' F A {s with sg:=zo s.sg h k (some ⟨id,next,kv,done⟩)}/\But F w w':=by
 have hX:=p.stg.e h k x hh hk hx;have hz:(s.sg h k).isSome=true:=by rw[hx];rfl
 have NU:∀a b,(zo s.sg h k (some ⟨id,next,kv,done⟩) a b).isSome=(s.sg a b).isSome:=λa b=>by
  by_cases e:a=h/\b=k
  ·obtain⟨rfl,rfl⟩:=e;rw[ku,hz];rfl
  ·rw[ze e]
 refine⟨p.NG (sP':=A.sP) hb (λ_ h=>h) (λb e _=>e.elim (λe=>.inl ⟨_,e▸hX.2.s⟩) λe=>.inr (.inr ⟨h,k,hh,hk,hz,e⟩)) ⟨p.stg.f,?_,λa b y ha fQ hy=>?_,λa b c d ha hb hc hd h1 h2 h3=>p.stg.i a b c d ha hb hc hd (by rwa [NU]at h1) (by rwa [NU]at h2) h3,λa b ha hb hz=>p.stg.n a b ha hb (by rwa [NU]at hz)⟩,hb.mono λb e=>e.elim (λe=>e▸hX.1.1) λe=>e▸hX.1.2.2⟩
 ·have e:(λa b=>(zo s.sg h k (some ⟨id,next,kv,done⟩) a b).map λ_=>(A.sP a b).1)=λa b=>(s.sg a b).map λ_=>(A.sP a b).1:=by
   funext a b;by_cases e:a=h/\b=k
   ·obtain⟨rfl,rfl⟩:=e;rw[ku,hx];rfl
   ·rw[ze e]
  show jY w' A.sm λa b=>(zo s.sg h k (some ⟨id,next,kv,done⟩) a b).map λ_=>(A.sP a b).1;rw[e];refine p.stg.m.block (hb.keep _ p.stg.m.lt λe=>?_);rcases e with e|e
  ·exact p.stg.m.ty hX.2.s e.symm
  ·exact(p.stg.n h k hh hk hz).1 e
 ·by_cases e:a=h/\b=k
  ·obtain⟨rfl,rfl⟩:=e;replace hy:zo s.sg a b (some ⟨id,next,kv,done⟩) a b=some y:=hy;rw[ku]at hy;cases hy;exact⟨hX.1,hs⟩
  ·replace hy:zo s.sg h k (some ⟨id,next,kv,done⟩) a b=some y:=hy;rw[ze e]at hy;obtain⟨h1,h4⟩:=p.stg.e a b y ha fQ hy;have qV:(s.sg a b).isSome=true:=by rw[hy];rfl
   refine⟨h1,h4.block λq hq=>hb.keep q ?_ ?_⟩
   ·rcases hq with rfl|rfl|rfl
    ·exact(yx h4.s).1
    ·exact(yx h4.d).1
    ·exact h4.m.lt
   ·rcases hq with rfl|rfl|rfl
    ·rintro(e2|e2)
     ·exact e (p.stg.i a b h k ha fQ hh hk qV hz (.inl e2))
     ·exact zx hX.2.m h4.s e2
    ·rintro(e2|e2)
     ·have h5:=h4.d;rw[e2,hX.2.s]at h5;exact absurd (zb h5) (by decide)
     ·exact zx hX.2.m h4.d e2
    ·rintro(e2|e2)
     ·exact zx h4.m hX.2.s e2.symm
     ·exact e (p.stg.i a b h k ha fQ hh hk qV hz (.inr e2))
end
end Go.Proofs.YtkpekiajdlolnabGreat
namespace Go.Proofs.YtkpekiajdlolnabGreat.Ph
open Go.Conc Go.ConcN Go.RowKit Go.Maps Go.Conc.Lib Go Sim
theorem j4.idleB {w':aa} {F:Nat->Prop} {A:PA} {s:St} {v:ah} (h:jo w F A s) (hb:But (λ_=>False) w w'):j4 w F A v s (.returned v) w':=⟨rfl,A,rfl,(h.idle hb).mono λ_ h=>.inl h,hb.mono λ_ x=>x.elim⟩
def nT (f:Fr) (k:Nat):Bs:=Fr.bytes ⟨k,f.qg,f.id,f.n,[]⟩
theorem q0c (kd:Int) (sh id n k:Nat) (ld:ByteArray) (hk:k<256) (iM:sh<256) (hid:id<9223372036854775808) (hn:n<9223372036854775808):
  aD prog 102 #[.agg #[.int .u8 kd,.int .i64 sh,.int .i64 id,.int .i64 n,.string ld],.int .u8 k] w λe w'=>e=.returned (sv (Fr.bytes ⟨k,sh,id,n,[]⟩))/\But (λ_=>False) w w':=by
 have HB:=Hd (λw=>F8 (w:=w) k sh id n ⟨#[]⟩ hk iM hid hn (by decide));have e1:sv (Fr.bytes ⟨k,sh,id,n,[]⟩)=.string (frB k sh id n ⟨#[]⟩):=rfl;rw[e1];clear e1;generalize frB k sh id n ⟨#[]⟩=fb at*;go_enter func102,ntmps102;go_wp2_with (go_at_call 75;refine(HB.o _).mono ?_;rintro e w2 ⟨rfl,h2⟩;have H2:=Hd h2;clear h2)
 go_ret;exact⟨rfl,But.of_below (((zk _ _).alloc (ji _) _).trans (H2.mono (by simp)))⟩
end Go.Proofs.YtkpekiajdlolnabGreat.Ph
