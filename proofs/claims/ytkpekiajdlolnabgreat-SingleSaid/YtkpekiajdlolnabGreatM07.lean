/- PROVED: part 7 of the claim's ground. Conditions: those that each theorem names. -/
import Derived.Test.YtkpekiajdlolnabGreatM06
import Derived.Test.YtkpekiajdlolnabGreatM03
import Derived.Test.YtkpekiajdlolnabGreatM05
import Derived.Sort.MapsRangeIn
import Derived.Test.YtkpekiajdlolnabGreatM04
import Derived.ChangeKeysEq
import Derived.Deep.AppendLies
import Derived.Conc.CompanyDraw
set_option linter.unusedVariables false
set_option linter.unusedSimpArgs false
set_option maxRecDepth 100000
set_option maxHeartbeats 16000000
variable{K:List Go.Item} {R:(Nat->Go.Value)->Go.World->Prop} {b cl fr g gb h hh i ix j lb n pb q:Nat} {db mb:Nat->Nat} {e:Int} {fx:List (Nat×Go.Obj)} {kb ub:ByteArray} {l:Go.Proofs.YtkpekiajdlolnabGreat.KV} {m:Go.Proofs.YtkpekiajdlolnabGreat.Mv} {sl:Bool} {ty:Go.TypeId} {u:Go.Proofs.YtkpekiajdlolnabGreat.Bs} {w w':Go.World} {x x0:Nat->Go.Value}
open Go.Proofs.Tryz
open Nat renaming le_succ_of_le→aa,reduceEqDiff→ai,le_succ→aj,succ_le_succ→bp,not_lt_zero→bG,zero_add→bR
open Array renaming getElem?_eq_none→ac,getD_eq_getD_getElem?→av,replicate→az,getElem?_push→aC,getElem?_append_left→aI,getElem?_eq_getElem→bi
open Go renaming Value→ae,World→ag,execOp→aq,Calls→aK,Operand→aP,heap_alloc_new→aR,Frame→aU,undef→aV,getD_set_ne→aY,maxLen→bu,FuncId→bD,mem_ready→bO
open Go.Region renaming ready→ah
open Go.Region.linearise renaming go→am
open List renaming getElem?_eq_some_iff→ao,map_toArray→ax,take_append_drop→ay,take_of_length_le→aF,map_cons→aH,map_nil→aJ,getElem?_eq_getElem→aM,append_assoc→aQ,length_filter_le→aS,mem_append→aZ,length_append→bd,range→bg,length_take→bC,all_eq_true→bF,mem_range→bK,mem_cons→bL
open Option renaming getD→au,isSome_iff_exists→aL,map_eq_some_iff→bq,getD_some→bE
open And renaming intro→aw
open Go.World renaming ownsRow_nil→aA,cell?→aD,frozen?→aG
open Go.Value renaming bool→aE
open Go.Act renaming mk→aN
open Go.Op renaming equalIn→aO
open Go.Obj renaming cells→aW
open Go.Instr renaming index→aX
open Go.Code renaming region→bj,wp_mono→bP
open UInt8 renaming ofNat→bk
open Go.RowKit renaming Below→bm
open Bool renaming and_eq_true→bo,false_eq_true→bz,or_eq_true→bH
namespace Go.Proofs.YtkpekiajdlolnabGreat
namespace Ph
section
open Go.Conc Go.ConcN Go.RowKit Go.Maps Go.Conc.Lib Go Sim
section
variable {w w' w0:ag} {F:Nat->Prop} {A:PA} {W:Nat} {wv:ae} {s s':St} {k:KW} {L:KV}
theorem Gg {base size:Nat} {v:ae} {xs:List ae} (h:w.ownsRow base ty size v n xs):∃sa n' cp,v=.slice sa n' cp/\w.ownsRow base ty size (.slice sa n' cp) n' xs:=by
 obtain⟨sa,cp,rfl⟩:=CQ h;exact⟨sa,n,cp,rfl,h⟩
theorem KLo.fin {lv v4:ae} {w9:ag} {xs:List ae} {L':KV} (h:KLo w F A W lv wv s k) (hb:bm w.heap.size w w9) (hr:w9.ownsRow w.heap.size 74 2 v4 n xs) (ha:l6 w9 v4) (e:xs=flat L'):y9 (w9.setCell ⟨W,1,none⟩ v4) W s {k with l:=L'}:=
 (h.below hb).list (Jb hr ha (xzl _) e) λb fQ hF=>by
  have h1:=(hr.lt b fQ).1;have h2:=h.lo b hF;omega
theorem Yd {cap:Nat} (h:KAt w F A W (.slice (some ⟨gb,0,none⟩) k.l.length cap) wv s k) {v:ByteArray} {has:Bool} (c:WrC F A W (.slice (some ⟨gb,0,none⟩) k.l.length cap) wv s s' k kb v true has n ix e sl) (he:e=0) (hs:sl=false) (hh:has=true) (uT:ix<=k.l.length) (dY:ix<k.l.length) (wJ:k.l.length<=cap) (xJ:cap<=bu) (hl:k.l.length<=1000) (fP:k.seen<4611686018427387904):
  aK prog 43 #[.pointer (some ⟨W,0,none⟩),.string kb,.string v,.bool true] w λe w'=>e=.returned (.bool true)/\y9 w' W s' {k with l:=k.l.take ix++[]++k.l.drop (ix+1),seen:=k.seen+1}:=by
 have H:=Hd h;have C:=Hd c;have hidx:=c.idx;have c0:=(h.cells 0 (.pointer (some ⟨A.cl,0,none⟩)) rfl).1;have uU:=λ(a e0 e1 e2 e3 m0 m1 m2 m3 b0 b1 b2 b3:ae) (V:ag)=>(yS a e0 e1 e2 e3 m0 m1 m2 m3 b0 b1 b2 b3 V).1;subst he;subst hs;subst hh;have fE:¬(9223372036854775807<k.seen+1):=by omega
 have HQ:Hid (0+ix+(k.l.length-ix)<=1073741824/\0+ix+(k.l.length-(ix+1))<=1073741824/\0+ix+1+(k.l.length-ix)<=1073741824/\0+ix+1+(k.l.length-(ix+1))<=1073741824):=by refine⟨?_,?_,?_,?_⟩<;>omega
 have NP:ix+1<=k.l.length:=dY;obtain⟨E,o0,o1,o2,o3,m0,m1,m2,m3,b0,b1,b2,b3,mr,e0,e1,e2,e3⟩:=yM s';rw[e0,e1,e2,e3]at hidx;have rH:=Hd mr;clear h c mr e0 e1 e2 e3;go_enter func43,ntmps43;go_wp2_with (first
  |(go_at_call 70;refine(C.out.hat _ H.o).mono ?_;rintro e w1 ⟨rfl,gK⟩;have K1:=Hd (H.below gK);have d0:=(K1.cells 0 (.pointer (some ⟨A.cl,0,none⟩)) rfl).1;clear gK)
  |(go_at_call 25;refine(C.out.del rfl _ K1.o).mono ?_;rintro e w2 hp;obtain⟨F2,A2,eA,k2⟩:=K1.AL hp;obtain⟨he,_⟩:=hp;subst he;have EA:=Hd eA;have K2:=Hd k2;have d2:=(K2.k.cells 0 (.pointer (some ⟨A2.cl,0,none⟩)) rfl).1;rw[eA]at d2;clear eA k2)
  |(go_at_call 35;refine(C.out.look _ _ _ EA.out K2.o).mono ?_;rw[rH.o];rintro e w3 ⟨rfl,fO⟩;have K3:=Hd (K2.below fO);clear fO;have x1:=(K3.k.cells 1 (.slice (some ⟨gb,0,none⟩) k.l.length cap) rfl).1;obtain⟨x7,_⟩:=K3.k.cells 7 (.int .i64 k.seen) rfl;have xf:∀j,w3.frozen? ⟨W,j,none⟩=false:=(λj=>by simp[aG,K3.k.c]);have K5:=Hd K3.seen;have BJ:=Hd (λw' hb=>LQ (w':=w') K5.k.l rfl hb))
  |(go_at_call 71;refine(C.out.qg _).mono ?_;rintro e w9 ⟨rfl,rfl⟩)
  |(at_builtin;refine yo (v:=.slice none 0 0) rfl (.const (.slice none 0 0)) (.tmp 83) rfl rfl rfl (aA _ _ _ _) (l6.nil _) (BJ.o _ (zk _ _) 0 ix (by omega)) (by omega) (ji _) ?_;intro v2 w5 fq vI iH;have wD:=Hd fq;have DJ:=Hd vI;have iE:=Hd ((zk _ _).grown iH (ji _) (λj hj=>by cases hj));have y1:=(iE.cell (p:=⟨W,1,none⟩) K5.k.lt).trans (K5.k.cells 1 (.slice (some ⟨gb,0,none⟩) k.l.length cap) rfl).1;clear fq vI iH)
  |(at_builtin;refine yo (v:=v2) rfl (.tmp 97) (.tmp 103) rfl rfl rfl wD.o DJ.o (LK BJ.o iE.o (ix+1) NP (Mj wJ)) HQ.2.1 iE.size ?_;intro v4 w7 gq vH vW;obtain⟨Li,n4,OZ,Dx,gq⟩:=Gg gq;subst Dx;have iI:=Be iE.o vW wD.o (ji _) iE.size;have rJ:=Hd (aw (aw gq vH) iI);have z4:=(iI.cell (p:=⟨W,1,none⟩) K5.k.lt).trans (K5.k.cells 1 (.slice (some ⟨gb,0,none⟩) k.l.length cap) rfl).1;have zf:w7.frozen? ⟨W,1,none⟩=false:=(K5.below iI).k.cells 1 (.slice (some ⟨gb,0,none⟩) k.l.length cap) rfl|>.2;clear gq vH vW iI))
 all_goals go_ret
 all_goals exact⟨rfl,K5.fin rJ.2 rJ.1.1 rJ.1.2 (by simp[yY,yV,wX,qC];try rw[<-yY,ay])⟩
theorem Ya {cap:Nat} (h:KAt w F A W (.slice (some ⟨gb,0,none⟩) k.l.length cap) wv s k) {v:ByteArray} {has:Bool} (c:WrC F A W (.slice (some ⟨gb,0,none⟩) k.l.length cap) wv s s' k kb v false has n ix e sl) (he:e=0) (hs:sl=false) (hh:has=true) (uT:ix<=k.l.length) (dY:ix<k.l.length) (wJ:k.l.length<=cap) (xJ:cap<=bu) (hl:k.l.length<=1000) (fP:k.seen<4611686018427387904):
  aK prog 43 #[.pointer (some ⟨W,0,none⟩),.string kb,.string v,.bool false] w λe w'=>e=.returned (.bool true)/\y9 w' W s' {k with l:=k.l.take ix++[(kb.data.toList,v.data.toList)]++k.l.drop (ix+1),seen:=k.seen+1}:=by
 have H:=Hd h;have C:=Hd c;have hidx:=c.idx;have c0:=(h.cells 0 (.pointer (some ⟨A.cl,0,none⟩)) rfl).1;have uU:=λ(a e0 e1 e2 e3 m0 m1 m2 m3 b0 b1 b2 b3:ae) (V:ag)=>(yS a e0 e1 e2 e3 m0 m1 m2 m3 b0 b1 b2 b3 V).1;subst he;subst hs;subst hh;have fE:¬(9223372036854775807<k.seen+1):=by omega
 have HQ:Hid (0+ix+(k.l.length-ix)<=1073741824/\0+ix+(k.l.length-(ix+1))<=1073741824/\0+ix+1+(k.l.length-ix)<=1073741824/\0+ix+1+(k.l.length-(ix+1))<=1073741824):=by refine⟨?_,?_,?_,?_⟩<;>omega
 have NP:ix+1<=k.l.length:=dY;obtain⟨E,o0,o1,o2,o3,m0,m1,m2,m3,b0,b1,b2,b3,mr,e0,e1,e2,e3⟩:=yM s';rw[e0,e1,e2,e3]at hidx;have rH:=Hd mr;clear h c mr e0 e1 e2 e3;go_enter func43,ntmps43;go_wp2_with (first
  |(go_at_call 70;refine(C.out.hat _ H.o).mono ?_;rintro e w1 ⟨rfl,gK⟩;have K1:=Hd (H.below gK);have d0:=(K1.cells 0 (.pointer (some ⟨A.cl,0,none⟩)) rfl).1;clear gK)
  |(go_at_call 18;refine(C.out.put rfl _ K1.o).mono ?_;rintro e w2 hp;obtain⟨F2,A2,eA,k2⟩:=K1.AL hp;obtain⟨he,_⟩:=hp;subst he;have EA:=Hd eA;have K2:=Hd k2;have d2:=(K2.k.cells 0 (.pointer (some ⟨A2.cl,0,none⟩)) rfl).1;rw[eA]at d2;clear eA k2)
  |(go_at_call 35;refine(C.out.look _ _ _ EA.out K2.o).mono ?_;rw[rH.o];rintro e w3 ⟨rfl,fO⟩;have K3:=Hd (K2.below fO);clear fO;have x1:=(K3.k.cells 1 (.slice (some ⟨gb,0,none⟩) k.l.length cap) rfl).1;obtain⟨x7,_⟩:=K3.k.cells 7 (.int .i64 k.seen) rfl;have xf:∀j,w3.frozen? ⟨W,j,none⟩=false:=(λj=>by simp[aG,K3.k.c]);have K5:=Hd K3.seen;have BJ:=Hd (λw' hb=>LQ (w':=w') K5.k.l rfl hb))
  |(go_at_call 71;refine(C.out.qg _).mono ?_;rintro e w9 ⟨rfl,rfl⟩)
  |(at_builtin;refine yo (v:=.slice none 0 0) rfl (.const (.slice none 0 0)) (.tmp 83) rfl rfl rfl (aA _ _ _ _) (l6.nil _) (BJ.o _ (zk _ _) 0 ix (by omega)) (by omega) (ji _) ?_;intro v2 w5 fq vI iH;have wD:=Hd fq;have DJ:=Hd vI;have iE:=Hd ((zk _ _).grown iH (ji _) (λj hj=>by cases hj));have y1:=(iE.cell (p:=⟨W,1,none⟩) K5.k.lt).trans (K5.k.cells 1 (.slice (some ⟨gb,0,none⟩) k.l.length cap) rfl).1;clear fq vI iH)
  |(at_builtin;refine yo (v:=v2) rfl (.tmp 87) (.tmp 91) rfl rfl rfl (wD.alloc _) (DJ.alloc _) (Src.one w5 kb v _) (by omega) (xlt iE.size (by simp)) ?_;intro v3 w6 ig rV sF;have BK:=Hd ig;have Ih:=Hd rV;have kU:=Hd (Be (iE.alloc iE.size _) sF (wD.alloc _) (ji _) (xlt iE.size (by simp)));have z1:=(kU.cell (p:=⟨W,1,none⟩) K5.k.lt).trans (K5.k.cells 1 (.slice (some ⟨gb,0,none⟩) k.l.length cap) rfl).1;clear ig rV sF)
  |(at_builtin;refine yo (v:=v3) rfl (.tmp 97) (.tmp 103) rfl rfl rfl BK.o Ih.o (LK BJ.o kU.o (ix+1) NP (Mj wJ)) HQ.2.2.2 kU.size ?_;intro v4 w7 gq vH vW;obtain⟨Li,n4,OZ,Dx,gq⟩:=Gg gq;subst Dx;have iI:=Be kU.o vW BK.o (ji _) kU.size;have rJ:=Hd (aw (aw gq vH) iI);have z4:=(iI.cell (p:=⟨W,1,none⟩) K5.k.lt).trans (K5.k.cells 1 (.slice (some ⟨gb,0,none⟩) k.l.length cap) rfl).1;have zf:w7.frozen? ⟨W,1,none⟩=false:=(K5.below iI).k.cells 1 (.slice (some ⟨gb,0,none⟩) k.l.length cap) rfl|>.2;clear gq vH vW iI))
 all_goals go_ret
 all_goals exact⟨rfl,K5.fin rJ.2 rJ.1.1 rJ.1.2 (by simp[yY,yV,wX,qC];try rw[<-yY,ay])⟩
theorem Yc {cap:Nat} (h:KAt w F A W (.slice (some ⟨gb,0,none⟩) k.l.length cap) wv s k) {v:ByteArray} {has:Bool} (c:WrC F A W (.slice (some ⟨gb,0,none⟩) k.l.length cap) wv s s' k kb v false has n ix e sl) (he:e=0) (hs:sl=false) (hh:has=false) (hr:jL k.l n≠12) (uT:ix<=k.l.length) (wJ:k.l.length<=cap) (xJ:cap<=bu) (hl:k.l.length<=1000) (fP:k.seen<4611686018427387904):
  aK prog 43 #[.pointer (some ⟨W,0,none⟩),.string kb,.string v,.bool false] w λe w'=>e=.returned (.bool true)/\y9 w' W s' {k with l:=k.l.take ix++[(kb.data.toList,v.data.toList)]++k.l.drop ix,seen:=k.seen+1}:=by
 have H:=Hd h;have C:=Hd c;have hidx:=c.idx;have c0:=(h.cells 0 (.pointer (some ⟨A.cl,0,none⟩)) rfl).1;have uU:=λ(a e0 e1 e2 e3 m0 m1 m2 m3 b0 b1 b2 b3:ae) (V:ag)=>(yS a e0 e1 e2 e3 m0 m1 m2 m3 b0 b1 b2 b3 V).1;subst he;subst hs;subst hh;have Pb:Hid ((jL k.l n:Int)≠12):=Hd (by omega);have Wh:jL k.l n<=1000:=xlt (aS _ _) hl;have irm:((jL k.l n:Int)==12)=false:=by simp;omega
 clear hr;have fE:¬(9223372036854775807<k.seen+1):=by omega
 have HQ:Hid (0+ix+(k.l.length-ix)<=1073741824/\0+ix+(k.l.length-(ix+1))<=1073741824/\0+ix+1+(k.l.length-ix)<=1073741824/\0+ix+1+(k.l.length-(ix+1))<=1073741824):=by refine⟨?_,?_,?_,?_⟩<;>omega
 obtain⟨E,o0,o1,o2,o3,m0,m1,m2,m3,b0,b1,b2,b3,mr,e0,e1,e2,e3⟩:=yM s';rw[e0,e1,e2,e3]at hidx;have rH:=Hd mr;clear h c mr e0 e1 e2 e3;go_enter func43,ntmps43;go_wp2_with (first
  |(go_at_call 70;refine(C.out.hat _ H.o).mono ?_;rintro e w1 ⟨rfl,gK⟩;have K1:=Hd (H.below gK);have d0:=(K1.cells 0 (.pointer (some ⟨A.cl,0,none⟩)) rfl).1;clear gK)
  |(go_at_call 18;refine(C.out.put rfl _ K1.o).mono ?_;rintro e w2 hp;obtain⟨F2,A2,eA,k2⟩:=K1.AL hp;obtain⟨he,_⟩:=hp;subst he;have EA:=Hd eA;have K2:=Hd k2;have d2:=(K2.k.cells 0 (.pointer (some ⟨A2.cl,0,none⟩)) rfl).1;rw[eA]at d2;clear eA k2)
  |(go_at_call 35;refine(C.out.look _ _ _ EA.out K2.o).mono ?_;rw[rH.o];rintro e w3 ⟨rfl,fO⟩;have K3:=Hd (K2.below fO);clear fO)
  |(go_at_call 71;refine(C.out.qg _).mono ?_;rintro e w9 ⟨rfl,rfl⟩)
  |(go_at_call 72;refine(C.out.room _ _ _ K3.o).mono ?_;rintro e w4 ⟨rfl,iI⟩;have K4:=Hd (K3.below iI);clear iI;have x1:=(K4.k.cells 1 (.slice (some ⟨gb,0,none⟩) k.l.length cap) rfl).1;obtain⟨x7,_⟩:=K4.k.cells 7 (.int .i64 k.seen) rfl;have xf:∀j,w4.frozen? ⟨W,j,none⟩=false:=(λj=>by simp[aG,K4.k.c]);have K5:=Hd K4.seen;have BJ:=Hd (λw' hb=>LQ (w':=w') K5.k.l rfl hb))
  |(at_builtin;refine yo (v:=.slice none 0 0) rfl (.const (.slice none 0 0)) (.tmp 83) rfl rfl rfl (aA _ _ _ _) (l6.nil _) (BJ.o _ (zk _ _) 0 ix (by omega)) (by omega) (ji _) ?_;intro v2 w5 fq vI iH;have wD:=Hd fq;have DJ:=Hd vI;have iE:=Hd ((zk _ _).grown iH (ji _) (λj hj=>by cases hj));have y1:=(iE.cell (p:=⟨W,1,none⟩) K5.k.lt).trans (K5.k.cells 1 (.slice (some ⟨gb,0,none⟩) k.l.length cap) rfl).1;clear fq vI iH)
  |(at_builtin;refine yo (v:=v2) rfl (.tmp 87) (.tmp 91) rfl rfl rfl (wD.alloc _) (DJ.alloc _) (Src.one w5 kb v _) (by omega) (xlt iE.size (by simp)) ?_;intro v3 w6 ig rV sF;have BK:=Hd ig;have Ih:=Hd rV;have kU:=Hd (Be (iE.alloc iE.size _) sF (wD.alloc _) (ji _) (xlt iE.size (by simp)));have z1:=(kU.cell (p:=⟨W,1,none⟩) K5.k.lt).trans (K5.k.cells 1 (.slice (some ⟨gb,0,none⟩) k.l.length cap) rfl).1;clear ig rV sF)
  |(at_builtin;refine yo (v:=v3) rfl (.tmp 97) (.tmp 103) rfl rfl rfl BK.o Ih.o (LK BJ.o kU.o ix uT (Mj wJ)) HQ.2.2.1 kU.size ?_;intro v4 w7 gq vH vW;obtain⟨Li,n4,OZ,Dx,gq⟩:=Gg gq;subst Dx;have iI:=Be kU.o vW BK.o (ji _) kU.size;have rJ:=Hd (aw (aw gq vH) iI);have z4:=(iI.cell (p:=⟨W,1,none⟩) K5.k.lt).trans (K5.k.cells 1 (.slice (some ⟨gb,0,none⟩) k.l.length cap) rfl).1;have zf:w7.frozen? ⟨W,1,none⟩=false:=(K5.below iI).k.cells 1 (.slice (some ⟨gb,0,none⟩) k.l.length cap) rfl|>.2;clear gq vH vW iI))
 all_goals go_ret
 all_goals exact⟨rfl,K5.fin rJ.2 rJ.1.1 rJ.1.2 (by simp[yY,yV,wX,qC];try rw[<-yY,ay])⟩
theorem Yb (h:KAt w F A W (.slice none 0 0) wv s k) {v:ByteArray} {has:Bool} (c:WrC F A W (.slice none 0 0) wv s s' k kb v false has n 0 e sl) (he:e=0) (hs:sl=false) (hh:has=false) (hr:jL k.l n≠12) (nM:k.l=[]) (hl:k.l.length<=1000) (fP:k.seen<4611686018427387904):
  aK prog 43 #[.pointer (some ⟨W,0,none⟩),.string kb,.string v,.bool false] w λe w'=>e=.returned (.bool true)/\y9 w' W s' {k with l:=[(kb.data.toList,v.data.toList)],seen:=k.seen+1}:=by
 have H:=Hd h;have C:=Hd c;have hidx:=c.idx;have c0:=(h.cells 0 (.pointer (some ⟨A.cl,0,none⟩)) rfl).1;have uU:=λ(a e0 e1 e2 e3 m0 m1 m2 m3 b0 b1 b2 b3:ae) (V:ag)=>(yS a e0 e1 e2 e3 m0 m1 m2 m3 b0 b1 b2 b3 V).1;subst he;subst hs;subst hh;have Pb:Hid ((jL k.l n:Int)≠12):=Hd (by omega);have Wh:jL k.l n<=1000:=xlt (aS _ _) hl;have irm:((jL k.l n:Int)==12)=false:=by simp;omega
 clear hr;have fE:¬(9223372036854775807<k.seen+1):=by omega
 obtain⟨E,o0,o1,o2,o3,m0,m1,m2,m3,b0,b1,b2,b3,mr,e0,e1,e2,e3⟩:=yM s';rw[e0,e1,e2,e3]at hidx;have rH:=Hd mr;clear h c mr e0 e1 e2 e3;go_enter func43,ntmps43;go_wp2_with (first
  |(go_at_call 70;refine(C.out.hat _ H.o).mono ?_;rintro e w1 ⟨rfl,gK⟩;have K1:=Hd (H.below gK);have d0:=(K1.cells 0 (.pointer (some ⟨A.cl,0,none⟩)) rfl).1;clear gK)
  |(go_at_call 18;refine(C.out.put rfl _ K1.o).mono ?_;rintro e w2 hp;obtain⟨F2,A2,eA,k2⟩:=K1.AL hp;obtain⟨he,_⟩:=hp;subst he;have EA:=Hd eA;have K2:=Hd k2;have d2:=(K2.k.cells 0 (.pointer (some ⟨A2.cl,0,none⟩)) rfl).1;rw[eA]at d2;clear eA k2)
  |(go_at_call 35;refine(C.out.look _ _ _ EA.out K2.o).mono ?_;rw[rH.o];rintro e w3 ⟨rfl,fO⟩;have K3:=Hd (K2.below fO);clear fO)
  |(go_at_call 71;refine(C.out.qg _).mono ?_;rintro e w9 ⟨rfl,rfl⟩)
  |(go_at_call 72;refine(C.out.room _ _ _ K3.o).mono ?_;rintro e w4 ⟨rfl,iI⟩;have K4:=Hd (K3.below iI);clear iI;have x1:=(K4.k.cells 1 (.slice none 0 0) rfl).1;obtain⟨x7,_⟩:=K4.k.cells 7 (.int .i64 k.seen) rfl;have xf:∀j,w4.frozen? ⟨W,j,none⟩=false:=(λj=>by simp[aG,K4.k.c]);have K5:=Hd K4.seen)
  |(at_builtin;refine yo (v:=.slice none 0 0) rfl (.const (.slice none 0 0)) (.tmp 83) rfl rfl rfl (aA _ _ _ _) (l6.nil _) Src.nil (by omega) (ji _) ?_;intro v2 w5 fq vI iH;have wD:=Hd fq;have DJ:=Hd vI;have iE:=Hd ((zk _ _).grown iH (ji _) (λj hj=>by cases hj));have y1:=(iE.cell (p:=⟨W,1,none⟩) K5.k.lt).trans (K5.k.cells 1 (.slice none 0 0) rfl).1;clear fq vI iH)
  |(at_builtin;refine yo (v:=v2) rfl (.tmp 87) (.tmp 91) rfl rfl rfl (wD.alloc _) (DJ.alloc _) (Src.one w5 kb v _) (by omega) (xlt iE.size (by simp)) ?_;intro v3 w6 ig rV sF;have BK:=Hd ig;have Ih:=Hd rV;have kU:=Hd (Be (iE.alloc iE.size _) sF (wD.alloc _) (ji _) (xlt iE.size (by simp)));have z1:=(kU.cell (p:=⟨W,1,none⟩) K5.k.lt).trans (K5.k.cells 1 (.slice none 0 0) rfl).1;clear ig rV sF)
  |(at_builtin;refine yo (v:=v3) rfl (.tmp 97) (.tmp 103) rfl rfl rfl BK.o Ih.o Src.nil (by omega) kU.size ?_;intro v4 w7 gq vH vW;obtain⟨Li,n4,OZ,Dx,gq⟩:=Gg gq;subst Dx;have iI:=Be kU.o vW BK.o (ji _) kU.size;have rJ:=Hd (aw (aw gq vH) iI);have z4:=(iI.cell (p:=⟨W,1,none⟩) K5.k.lt).trans (K5.k.cells 1 (.slice none 0 0) rfl).1;have zf:w7.frozen? ⟨W,1,none⟩=false:=(K5.below iI).k.cells 1 (.slice none 0 0) rfl|>.2;clear gq vH vW iI))
 all_goals go_ret
 all_goals exact⟨rfl,K5.fin rJ.2 rJ.1.1 rJ.1.2 (by simp[yY,yV,wX,qC])⟩
end
structure iq (s:St) (G:Nat->GH) (k:KW) (B:Nat):Prop where
 p:PI s G
 l:k.l=lT s.kv
 id:s.id<=B
 fs:∀i,1<=i->i<=s.id->(G i).fs.length<=B
 cs:∀i,i<4->∀m,s.mv i=some m->m.cs.length<=B
 ep:s.ep<=B
 seen:k.seen<=B
section
variable {w w' w0:ag} {F:Nat->Prop} {A:PA} {W:Nat} {lv wv:ae} {s s':St} {k:KW} {G:Nat->GH} {B:Nat}
theorem iq.len (h:iq s G k B):k.l.length<=48:=by rw[h.l];exact Sz h.p.Ed
theorem iq.keys (h:iq s G k B):∀p∈k.l,iT p.1=true:=λp hp=>by
 have ko:=h.p.Ed;rw[h.l]at hp;unfold lT at hp;rcases aZ.1 hp with hp|hp
 ·exact(ko.f 0 (by decide) p hp).1
 ·rcases aZ.1 hp with hp|hp
  ·exact(ko.f 1 (by decide) p hp).1
  ·rcases aZ.1 hp with hp|hp
   ·exact(ko.f 2 (by decide) p hp).1
   ·exact(ko.f 3 (by decide) p hp).1
theorem iq.mv (h:iq s G k B) (hi:i<4) (hm:s.mv i=some m):m.id<=B/\m.n<=B:=by
 obtain⟨a1,a2,o⟩:=h.p.mv i hi m hm;have h1:=h.fs m.id a1 a2;have h2:=h.id;rw[o.fs]at h1;exact⟨by omega,by omega⟩
theorem iq.lim (h:iq s G k B) (hB:B<=100000) (hi:i<4) (hm:s.mv i=some m):uG m:=by
 obtain⟨a1,a2,o⟩:=h.p.mv i hi m hm;obtain⟨b1,b2⟩:=h.mv hi hm;exact⟨by omega,by omega,by have:=o.pl;omega,by have:=h.cs i hi m hm;omega,λp hp=>yT (o.ps p hp),λc hc=>yT (o.cs c hc).1⟩
theorem iq.rp (h:iq s G k B) (hB:B<=100000):wP s:=by
 refine⟨by rw[h.p.hosts];decide,h.p.kvr,h.p.kvl,λi hi p hp=>?_,by have:=h.id;omega,by have:=h.ep;omega,λi hi m hm=>?_⟩
 ·have:=(yT (h.p.kvf i hi p hp)).1;unfold bu;omega
 ·obtain⟨a1,a2,o⟩:=h.p.mv i hi m hm;have tV:=(h.p.g m.id a1 a2).2;have how:=h.p.ow i hi;refine⟨h.lim hB hi hm,by rw[<-o.to];omega,by rw[o.fr];omega,λhs=>?_⟩;obtain⟨ld,_,_,c⟩:=o.cur hs;refine⟨λe=>?_,λe=>?_⟩
  ·rcases c with⟨e1,_⟩|⟨_,_,c,_⟩|⟨_,e1,_⟩|⟨_,e1,_⟩
   ·omega
   ·exact c
   ·omega
   ·omega
  ·rcases c with⟨e1,_⟩|⟨_,e1,_⟩|⟨_,_,_,c,_⟩|⟨_,e1,_⟩
   ·omega
   ·omega
   ·exact c
   ·omega
def vg (v:ByteArray) (g:Bool):ByteArray:=if g then⟨#[]⟩else v
theorem jah (h:KAt w F A W lv wv s k) (K:iq s G k B) (hB:B<=100000) (kb v:ByteArray) (g:Bool) (hk:iT kb.data.toList=true) (hv:v.data.toList.length<=12):
  aK prog 43 #[.pointer (some ⟨W,0,none⟩),.string kb,.string v,.bool g] w λe w'=>e=.returned (.bool true)/\y9 w' W (wrS s k kb (vg v g) g).1 (wrS s k kb (vg v g) g).2:=by
 have hlen:=K.len;have iQ:kb.size<=bu:=by
  have h2:kb.data.toList.length=kb.size:=by simp
  unfold iT at hk;simp only[bo,decide_eq_true_eq]at hk;unfold bu;omega
 obtain⟨n,hn⟩:∃n,je kb.data.toList=n:=⟨_,rfl⟩
 obtain⟨has,hh⟩:∃b,oN k.l kb.data.toList=b:=⟨_,rfl⟩
 obtain⟨ix,uT⟩:∃b,oL k.l kb.data.toList=b:=⟨_,rfl⟩
 have sD:n<4:=hn▸EJ _;have sp:=Jf (L:=k.l) (by rw[K.l];exact Nc K.p.Ed) kb.data.toList;have Gy:ix<=k.l.length:=uT▸sp.1;have dY:has=true->ix<k.l.length:=λe=>by
  rw[hh,e]at sp;obtain⟨v0,NZ⟩:=aL.1 sp.2.1.symm;have:=(ao.1 (sp.2.2.1 v0 NZ)).1;omega
 have ways:=QN K.p K.l (v:=vg v g) (g:=g) hk (by cases g;exact hv;exact xzl _) (λe=>by unfold vg;rw[if_pos e]) hn hh;have DV:=K.p.kvl;have Vs:∀i,i<4->∀m,s.mv i=some m->m.cs.length<=1073741820:=λi hi m hm=>by have:=K.cs i hi m hm;omega
 have C:WrC F A W lv wv s (chS s kb (vg v g) g) k kb v g has n ix (chE s kb (vg v g) g) (kr ((chS s kb (vg v g) g).mv n)):=by
  refine⟨λV hV=>?_,λe V hV=>?_,λe V hV=>?_,λV F2 A2 e hV=>?_,λV=>?_,λV F2 A2 hV=>?_,λV=>?_⟩
  ·have:=VL hV (by omega) kb;rwa [uT,hh]at this
  ·subst e;exact UC hV.p DV Vs kb v iQ
  ·subst e;exact YB hV.p DV Vs kb iQ
  ·rw[<-e];exact LU hV.k.p
  ·have:=RO (w:=V) kb hk;rwa [hn]at this
  ·exact q60 hV.k (by omega) K.keys n
  ·have:=q19 n sD (λi=>lkS (chS s kb (vg v g) g) 4 i) V;rw[this];show Result.ok (aE (lkS (chS s kb (vg v g) g) 4 n)) V=_;unfold lkS;rw[if_pos sD]
 unfold wrS;rcases ways with⟨a1,a2,a3⟩|⟨a1,(⟨b1,b2,b3,b4⟩|⟨b1,b2,b3,b4,b5⟩|⟨b1,b2,b3,b4,b5,b6⟩)⟩
 ·rw[a3,a2]at C;rw[a1]at C;rw[a2,a3,if_neg (by decide)];cases g
  ·exact qsm h C rfl rfl
  ·exact qsl h C rfl rfl
 ·rw[b4,b3]at C;rw[a1]at C;rw[b3,b4,if_neg (by decide)];subst b1;exact jag h C rfl rfl b2
 ·rw[b5,b4]at C;rw[a1]at C;rw[b4,b5,if_neg (by decide)];subst b1;exact jaf h C rfl rfl b2 b3
 ·rw[b1]at C;rw[b3]at C;rw[b1,if_pos rfl];have fP:k.seen<4611686018427387904:=by have:=K.seen;omega
  have hd:AU k.l kb.data.toList (vg v g).data.toList g=k.l.take ix++(if g then[]else[(kb.data.toList,v.data.toList)])++k.l.drop (if has then ix+1 else ix):=by
   unfold AU;rw[uT,hh];cases g<;>rfl
  rw[hd];rcases jU.shape h.l with⟨e,e2⟩|⟨gb,cap,e,c1,c2⟩
  ·subst e;have ix0:ix=0:=by rw[e2]at Gy;exact Nat.le_zero.1 Gy
   rcases b2 with⟨c1,c2⟩|⟨c1,c2⟩|⟨c1,c2,c3⟩
   ·have:=dY c2;rw[e2]at this;exact absurd this (bG _)
   ·have:=dY c2;rw[e2]at this;exact absurd this (bG _)
   ·subst c1 c2 ix0;have:=Yb h C rfl rfl rfl c3 e2 (by omega) fP;rw[e2];exact this
  ·subst e;rcases b2 with⟨d1,d2⟩|⟨d1,d2⟩|⟨d1,d2,d3⟩
   ·subst d1 d2;exact Yd h C rfl rfl rfl Gy (dY rfl) c1 c2 (by omega) fP
   ·subst d1 d2;exact Ya h C rfl rfl rfl Gy (dY rfl) c1 c2 (by omega) fP
   ·subst d1 d2;exact Yc h C rfl rfl rfl d3 Gy c1 c2 (by omega) fP
end
end
section
open Go.Conc Go.ConcN Go.RowKit Go.Maps Go Sim
theorem RB (L:Nat->KV) (f:Bs×Bs->Bool) (most:Nat):∀i,kN most (λi=>((L i).filter f).length) (λi=>flat ((L i).filter f)) i=(((cat L f i).take most).length,flat ((cat L f i).take most))
 |0=>by simp[kN,cat,wX]
 |i+1=>by
  simp only[kN];rw[RB L f most i];simp only[cat];have e0:most-((cat L f i).take most).length=most-(cat L f i).length:=by rw[bC];omega
  have e1:∀j,((L i).filter f).take (min ((L i).filter f).length j)=((L i).filter f).take j:=λj=>by
   rw[Nat.min_comm,<-List.take_take,List.take_length]
  rw[e0,MH,e1,List.take_append,yY];congr 1;rw[bd,bC (i:=most-_)];omega
theorem Ri {F:bD->Prop} {ρ:Rel}:∀{l:List MapEntry},(∀x∈l,ER F ρ x x)->EsR F ρ l l
 |[],_=>.nil
 |x::l,h=>.cons (h x (.head _)) (Ri λy hy=>h y (.tail _ hy))
theorem jdz {mb:Nat} {L:KV} (h:jv w mb L):∃p:Array MapEntry×Nat,w.heap[mb]?=some (.map p.1 p.2)/\(∀(F:bD->Prop) ρ,EsR F ρ p.1.toList p.1.toList)/\∀wl:ag,wl.heap[mb]?=some (.map p.1 p.2)->jv wl mb L:=by
 obtain⟨es,ck,h1,h2,h3⟩:=h;refine⟨(es,ck),h1,λF ρ=>Ri λx hx=>?_,λwl ES=>⟨es,ck,ES,h2,h3⟩⟩;obtain⟨y,hy⟩:=h2.reads x hx;have kH:=WideElems.rd_key hy;obtain⟨s,hs⟩:=Maps.keyOf_string_inv underlying9 kH;obtain⟨ky,vl,bn⟩:=x;subst hs;refine⟨.string s,?_,rfl⟩;unfold WideElems.rd at hy;simp only[Option.bind_eq_some_iff,bq]at hy;obtain⟨_,_,z,hz,_⟩:=hy;cases vl with
 |agg cs=>
  simp only[Rv]at hz;split at hz
  ·rename_i s' e;obtain⟨l⟩:=cs;subst e;exact .agg (.cons (.string s') .nil)
  ·cases hz
 |_=>cases hz
section
variable {N:Blocks} {kv:List ae} {w:ag} {cl:Nat} {db mb:Nat->Nat} {L:Nat->KV} {s t:ByteArray} {most:Nat}
theorem q35 {w:ag} {v:ae} (h:jU w b v l):nU (λ_=>True) w v l.length (flat l):=by
 refine⟨h.1.1,h.1.2.imp id ?_⟩;rintro⟨g,cap,cur,rfl,_,h2,h3,h4,h5,h6⟩;obtain⟨nH,QA,k1,k2⟩:=h.2 g rfl;rw[h2]at k1;cases k1;exact⟨g,cap,cur,rfl,trivial,h2,h3,h4,h6,k2⟩
theorem q4i (h:Clu w cl db mb L) (Hr:∀i,i<4->w.heap[db i]?=some (.cells #[.map (some (mb i))] 142 (0,0))) (Py:∀i,i<4->zm (L i)) (kH:∀i,i<4->∀p∈L i,p.1.length<=8) (Eh:most<=9223372036854775807) (hN:∀b,N b->b<w.heap.size):
  uJ N kv fS #[.pointer (some ⟨cl,0,none⟩),.string s,.string t,.int .i64 most] w λv w'=>
   ∃ov,v=.tuple #[ov,.int .i64 0]/\w'.ownsRow w.heap.size 74 2 ov ((cat L (inB s.data.toList t.data.toList) 4).take most).length (flat ((cat L (inB s.data.toList t.data.toList) 4).take most))/\(∀b,b<w.heap.size->w'.heap[b]?=w.heap[b]?)/\w.heap.size<=w'.heap.size/\w'.os=w.os/\w'.output=w.output:=by
 have hc:∀i,∃p:Array MapEntry×Nat,i<4->w.heap[mb i]?=some (.map p.1 p.2)/\(∀(F:bD->Prop) ρ,EsR F ρ p.1.toList p.1.toList)/\∀wl:ag,wl.heap[mb i]?=some (.map p.1 p.2)->jv wl (mb i) (L i):=λi=>by
  by_cases hi:i<4
  ·obtain⟨mv,hpi⟩:=h.p i hi;obtain⟨p,hp⟩:=jdz hpi.l;exact⟨p,λ_=>hp⟩
  ·exact⟨(#[],0),λfe=>absurd fe hi⟩
 obtain⟨es,jA⟩:=Classical.axiomOfChoice hc;have ht:=RB L (inB s.data.toList t.data.toList) most 4;have:=ZU (N:=N) (kv:=kv) (cl:=cl) (db:=db) (mb:=mb) (es:=λi=>(es i).1) (ck:=λi=>(es i).2) (s:=s) (t:=t) (m:=λi=>((L i).filter (inB s.data.toList t.data.toList)).length) (rows:=λi=>flat ((L i).filter (inB s.data.toList t.data.toList))) (w:=w) (most:=most)
  ⟨λi hi=>(h.p i hi).choose_spec.d,Hr,λi hi=>(jA i hi).1⟩ (λi hi=>(jA i hi).2.1) (λi hi wl hd hm=>by
   refine(QY (w:=wl) (db:=db i) (mb:=mb i) (L:=L i) (by simp[aD,hd]) ((jA i hi).2.2 wl hm) (Py i hi) (h.len i hi) (λp hp=>by have:=kH i hi p hp;unfold bu;omega) s t).mono ?_;rintro e w' ⟨v,rfl,hr,_⟩;exact q35 hr) (λi hi=>by
   have h1:=h.len i hi;have h2:((L i).filter (inB s.data.toList t.data.toList)).length<=(L i).length:=aS _ _;show((L i).filter (inB s.data.toList t.data.toList)).length<=_
   omega) Eh hN
 rw[ht]at this;exact this
end
end
section
open Go.Conc Go.ConcN Go.RowKit Go.Maps Go.Conc.Lib Go Sim
theorem ji8 (y:Nat->ae):lay 44 y=#[y 0,y 1,y 2,y 3,y 4,y 5,y 6,y 7,y 8,y 9,y 10,y 11,y 12,y 13,y 14,y 15,y 16,y 17,y 18,y 19,y 20,y 21,y 22,y 23,y 24,y 25,y 26,y 27,y 28,y 29,y 30,y 31,y 32,y 33,y 34,y 35,y 36,y 37,y 38,y 39,y 40,y 41,y 42,y 43]:=rfl
abbrev fA:bD:=21
def bA:aU:=base fA
def cF:Code->Code
 |.seq a _=>a
 |c=>c
def cS:Code->Code
 |.seq _ b=>b
 |c=>c
def cR:Code->Array Oper
 |.region _ ops _=>ops
 |_=>#[]
noncomputable def aB:Code:=(Tryz.f21.body).getD .skip
noncomputable def aR0:Array Oper:=cR (cF aB)
noncomputable def aR1:Array Oper:=cR (cF (cS aB))
noncomputable def aT:Code:=cS (cS aB)
theorem jg3:aB=.seq (.region 0 aR0 false) (.seq (.region 1 aR1 false) aT):=by kernel_rfl
theorem jjt:codeOk XG.P XG.P fb true aT=true:=by kernel_rfl
section
variable {N:Blocks} {kv:List ae} {ks:List aU} {w w' w0:ag} {F:Nat->Prop} {A:PA} {W:Nat} {lv wv:ae} {s s':St} {k:KW} {G:Nat->GH} {B:Nat} {x:Nat->ae}
theorem TG {v:ae} {ba:Nat} (ha:w.ownsRow ba 74 2 v l.length (flat l)):∃sa ca,v=.slice sa l.length ca/\∀j,j<l.length->∃g,sa=some ⟨g,0,none⟩:=by
 rcases ha.2 with⟨rfl,hz⟩|⟨g,cap,cur,rfl,_⟩
 ·exact⟨none,0,by rw[hz],λj hj=>by omega⟩
 ·exact⟨_,_,rfl,λj hj=>⟨g,rfl⟩⟩
theorem jg4 {ov:ae} {ba bb:Nat} {Q:Exit->Act->ag->Prop} (c1:w.cell? ⟨W,1,none⟩=some lv) (oC:w.ownsRow ba 74 2 lv l.length (flat l)) (zK:w.ownsRow bb 74 2 ov l.length (flat l)) (hl:l.length<=1000) (x0:x 0=.pointer (some ⟨W,0,none⟩)) (x3:x 3=ov) (x4:x 4=.int .i64 0)
  (fin:∀T w',T.getD 2 aV=.bool true->bm w.heap.size w w'->Q .ret ⟨T,[]⟩ w'):Code.wp prog aT Q ⟨lay 44 x,[]⟩ w:=by
 obtain⟨sa,ca,rfl,xD⟩:=TG oC;obtain⟨sb,cb,rfl,fE⟩:=TG zK;have HA:=Hd oC;have HB:=Hd zK;have O9:=Hd xD;have iX:=Hd fE;have HF:=Hd fin;have HC:=Hd c1;clear oC zK xD fE fin;obtain⟨x,rfl⟩:=qb x0;obtain⟨x,rfl⟩:=qb (x:=x) (j:=3) x3;obtain⟨x,rfl⟩:=qb (x:=x) (j:=4) x4;clear x0 x3 x4;rw[ji8];unfold aT aB;simp only[Tryz.f21,au,cS,upd,ai,if_true,if_false];by_cases hz:l.length=0
 ·rw[hz]at c1⊢;clear HA HB O9 iX HC;go_wp2;refine wp_loop_rounds 1 ?_;rw[rounds_succ];go_wp2;exact HF.o _ _ rfl (zk _ _)
 obtain⟨ga,rfl⟩:=O9.o 0 (by omega);obtain⟨gb,rfl⟩:=iX.o 0 (by omega);clear O9 iX;go_wp2;go_loopw [28] (λx wr=>∃j:Nat,j<=l.length/\x=.int .i64 j/\bm w.heap.size w wr) (λx _=>l.length-(intOf x).toNat);case atStart=>exact⟨0,xzl _,rfl,zk _ _⟩
 case round=>
  obtain⟨j,hj,rfl,sG⟩:=hrel;have c1:=(sG.cell (xbl w _ HC.o)).trans HC.o;by_cases jO:j<l.length
  ·obtain⟨p,hp⟩:∃p,l[j]?=some p:=⟨_,aM jO⟩
   obtain⟨a1,a2⟩:=SN HA.o (g:=ga) rfl hp;obtain⟨b1,b2⟩:=SN HB.o (g:=gb) rfl hp;have a1:=(sG.cell (xbl w _ a1)).trans a1;have a2:=(sG.cell (xbl w _ a2)).trans a2;have b1:=(sG.cell (xbl w _ b1)).trans b1;have b2:=(sG.cell (xbl w _ b2)).trans b2;unfold sv at a1 a2 b1 b2;generalize (⟨p.1.toArray⟩:ByteArray)=pk at*;generalize (⟨p.2.toArray⟩:ByteArray)=pv at*;have Wu:(0:Int)<=(j:Int):=by omega
   have EY:(j:Int)<((l.length:Nat):Int):=by omega
   go_wp2;go_quiet (fail);go_wp2;go_roundw;case rel=>exact⟨j+1,by omega,rfl,Below.drewN' sG _⟩
   case measure=>simp[intOf];omega
  ·obtain rfl:j=l.length:=by omega
   go_wp2;exact HF.o _ _ rfl sG
theorem jg7 (v:ae) (t:Array ae):(#[v]++t).getD 0 aV=v:=by
 rw[av,aI (by simp)];rfl
theorem Y3 {p:ae}:Frame.enter XG.P fA #[p] .normal=bA.at ⟨lay 44 (λi=>(#[p]++az 43 aV).getD i aV),[]⟩ [.code aB]:=by
 show Frame.enter prog fA _ .normal=_;rw[enter_at _ func21 (show Tryz.f21.body=some aB from rfl)];have hn:Tryz.f21.ntmps=44:=rfl;rw[hn,AX (by simp)];rfl
theorem El {F:bD->Prop} {ρ:Rel} {x:Nat->ae} (h:zi F ρ (lay n x).toList (lay n x).toList) (hj:j<n) {v:ae} (e:x j=v):VR F ρ v v:=by
 have:=zi.Em h j;rwa [(Gc hj).trans e]at this
theorem Bb {e:aP->ae} {o:Oper} {p:aP} {w:ag} (h:o.op=.fieldAddr 51 p 0) (hp:e p=.pointer (some ⟨g,0,none⟩)):(aq e o).run prog w=.ok (.value (.pointer (some ⟨g,0,none⟩))) w:=by
 have hu:=underlying51;unfold aq;simp[go_sem,h,hp,hu]
theorem Es {e:aP->ae} {o:Oper} {p:aP} {t:Array ae} {v:ae} {w:ag} (h:o.op=.extract p i) (hp:e p=.tuple t) (hv:t[i]?=some v):(aq e o).run prog w=.ok (.value v) w:=by
 unfold aq;simp[go_sem,h,hp,hv]
theorem q50 (L:Nat->KV):cat L (inB [] []) 4=lT L:=by
 have e:∀i,(L i).filter (inB [] [])=L i:=λi=>List.filter_eq_self.2 λp _=>by
  unfold inB;cases p.1<;>rfl
 simp only[cat,e,lT,List.nil_append,aQ]
theorem q61 (h:jo w F A s) (p:PI s G) (hN:∀b,N b->b<w.heap.size):uJ N kv fS #[.pointer (some ⟨A.cl,0,none⟩),.string ⟨#[]⟩,.string ⟨#[]⟩,.int .i64 1000] w λv w'=>∃ov,v=.tuple #[ov,.int .i64 0]/\w'.ownsRow w.heap.size 74 2 ov (lT s.kv).length (flat (lT s.kv))/\But (λ_=>False) w w':=by
 have clu:Clu w A.cl A.db A.mb s.kv:=⟨λi hi=>⟨_,h.part i hi⟩,h.mbi,p.kvl⟩
 refine(q4i (most:=1000) (s:=⟨#[]⟩) (t:=⟨#[]⟩) clu (λi hi=>(h.db i hi).2) p.kvr (λi hi q hq=>(yT (p.kvf i hi q hq)).1) (by decide) hN).mono ?_;rintro v w' ⟨ov,rfl,h1,h2,h3,h4,h5⟩;have e:(cat s.kv (inB (⟨#[]⟩:ByteArray).data.toList (⟨#[]⟩:ByteArray).data.toList) 4).take 1000=lT s.kv:=by
  show(cat s.kv (inB [] []) 4).take 1000=_;rw[q50,aF (by have:=Sz p.Ed;omega)]
 rw[e]at h1;exact⟨ov,rfl,h1,⟨h3,λb hb _=>h2 b hb,h4,h5⟩⟩
theorem VW (h:y9 w W s k) (K:iq s G k B) (hN:∀b,N b->b<w.heap.size):uJ N kv fA #[.pointer (some ⟨W,0,none⟩)] w λv w'=>v=.bool true/\y9 w' W s k/\But (λ_=>False) w w':=by
 refine Ee.calls rfl (λv w1 w2 sm q=>⟨q.1,q.2.1.idle (But.same' sm),q.2.2.trans (But.same' sm)⟩) λcs=>?_;rw[Y3,jg3];obtain⟨F,A,lv,wv,h⟩:=h;generalize hx:(λi=>(#[(.pointer (some ⟨W,0,none⟩):ae)]++az 43 aV).getD i aV)=x;have x0:x 0=.pointer (some ⟨W,0,none⟩):=by subst hx;exact jg7 _ _
 clear hx;refine ql.seq (ql.region ?_);change ql N kv cs (bA.at ⟨lay 44 x,[]⟩ (.inRegion aR0 [0]::_)) w cs _;refine ql.opn (j:=2) (o:=aR0.getD 0 ⟨none,.alloc 0,0, "",#[],none⟩) rfl rfl (by kernel_rfl) rfl rfl (λwc sm=>oQ (p:=.const (.bool false)) rfl rfl) λwa sa=>?_;refine ql.regionEnd (ql.seq (ql.region ?_));change ql N kv cs (bA.at ⟨lay 44 (upd x 2 (.bool false)),[]⟩ (.inRegion aR1 [0,1,2,3,4,5,6,7,8,9]::_)) wa cs _;generalize hy:upd x 2 (.bool false)=y;have y0:y 0=.pointer (some ⟨W,0,none⟩):=by subst hy;exact x0
 clear hy;have c0:∀{wc:ag},Same w wc->wc.cell? ⟨W,0,none⟩=some (.pointer (some ⟨A.cl,0,none⟩)):=λsm=>((h.idle (But.same' sm)).cells 0 (.pointer (some ⟨A.cl,0,none⟩)) rfl).1;refine ql.opn (j:=7) (o:=aR1.getD 0 ⟨none,.alloc 0,0, "",#[],none⟩) rfl rfl (by kernel_rfl) rfl rfl (λwc sm=>run_move (p:=.tmp 0) rfl (jc y0)) λwb sb=>?_;refine ql.opn (j:=8) (o:=aR1.getD 1 ⟨none,.alloc 0,0, "",#[],none⟩) rfl rfl (by kernel_rfl) rfl rfl (λwc sm=>y7 (p:=.tmp 7) rfl (jc rfl)) λwd sd=>?_;refine ql.opn (j:=9) (o:=aR1.getD 2 ⟨none,.alloc 0,0, "",#[],none⟩) rfl rfl (by kernel_rfl) rfl rfl (λwc sm=>Bb (p:=.tmp 8) rfl (jc rfl)) λwe se=>?_;refine ql.opn (j:=10) (o:=aR1.getD 3 ⟨none,.alloc 0,0, "",#[],none⟩) rfl rfl (by kernel_rfl) rfl rfl (λwc sm=>jk (ty:=40) (p:=.tmp 9) rfl (jc rfl) (by simp[isAgg,underlying40]) (c0 ((((sa.trans sb).trans sd).trans se).trans sm))) λwf sf=>?_;have s1:Same w wf:=(((sa.trans sb).trans sd).trans se).trans sf;clear sa sb sd se sf c0;generalize hz:upd (upd (upd (upd y 7 _) 8 _) 9 _) 10 _=z;have z0:z 0=.pointer (some ⟨W,0,none⟩):=by subst hz;exact y0
 have Qv:z 10=.pointer (some ⟨A.cl,0,none⟩):=by subst hz;rfl
 clear hz;have h1:=h.idle (But.same' s1);have Ia:(aN (lay 44 z) []).eval (.tmp 10)=.pointer (some ⟨A.cl,0,none⟩):=tmp (by decide) Qv;refine ql.call (o:=aR1.getD 4 ⟨none,.alloc 0,0, "",#[],none⟩) (f:=fS) (args:=#[.pointer (some ⟨A.cl,0,none⟩),.string ⟨#[]⟩,.string ⟨#[]⟩,.int .i64 1000]) rfl rfl (by decide) (AY rfl rfl (by rw[ax];simp only[aH,aJ,Ia];rfl) func27 (by decide) rfl) func27 (λρ hf _ _=>?_) (q61 h1.p K.p (λb hb=>by rw[s1.heap];exact hN b hb)) ?_
 ·have ht:=(hf rfl).tmps;exact .cons (El (n:=44) ht (by decide) Qv) (.cons (.string _) (.cons (.string _) (.cons (.int _ _) .nil)))
 rintro _ wj ⟨ov,rfl,hr,Ch⟩;have h2:=h1.idle Ch;change ql N kv cs (bA.at ⟨(lay 44 z).setIfInBounds 11 (.tuple #[ov,.int .i64 0]),[]⟩ (.inRegion aR1 [5,6,7,8,9]::_)) wj cs _;rw[CG];refine ql.opn (j:=6) (o:=aR1.getD 5 ⟨none,.alloc 0,0, "",#[],none⟩) rfl rfl (by kernel_rfl) rfl rfl (λwc sm=>run_move (p:=.tmp 11) rfl (jc rfl)) λwa sa=>?_;refine ql.opn (j:=12) (o:=aR1.getD 6 ⟨none,.alloc 0,0, "",#[],none⟩) rfl rfl (by kernel_rfl) rfl rfl (λwc sm=>Es (p:=.tmp 6) (i:=0) rfl (jc rfl) rfl) λwb sb=>?_;refine ql.opn (j:=13) (o:=aR1.getD 7 ⟨none,.alloc 0,0, "",#[],none⟩) rfl rfl (by kernel_rfl) rfl rfl (λwc sm=>Es (p:=.tmp 6) (i:=1) rfl (jc rfl) rfl) λwd sd=>?_;refine ql.opn (j:=3) (o:=aR1.getD 8 ⟨none,.alloc 0,0, "",#[],none⟩) rfl rfl (by kernel_rfl) rfl rfl (λwc sm=>oQ (p:=.tmp 12) rfl (jc rfl)) λwe se=>?_;refine ql.opn (j:=4) (o:=aR1.getD 9 ⟨none,.alloc 0,0, "",#[],none⟩) rfl rfl (by kernel_rfl) rfl rfl (λwc sm=>oQ (p:=.tmp 13) rfl (jc rfl)) λwg sg=>?_;have s2:Same wj wg:=(((sa.trans sb).trans sd).trans se).trans sg;clear sa sb sd se sg;generalize hu:upd (upd (upd (upd (upd (upd z 11 _) 6 _) 12 _) 13 _) 3 _) 4 _=u;have u0:u 0=.pointer (some ⟨W,0,none⟩):=by subst hu;exact z0
 have u3:u 3=ov:=by subst hu;rfl
 have u4:u 4=.int .i64 0:=by subst hu;rfl
 clear hu;refine ql.regionEnd ?_;refine ql.BX (n:=44) (r:=2) (V:=λv=>v=.bool true) rfl rfl rfl func21 rfl jjt (λv e ρ=>by subst e;exact .bool true) (λv w1 w2 sm q=>⟨q.1,q.2.1.idle (But.same' sm),q.2.2.trans (But.same' sm)⟩) λwc sm=>?_;have bt:But (λ_=>False) wj wc:=But.same' (s2.trans sm);have h3:=h2.idle bt;refine jg4 (l:=k.l) (h3.cells 1 lv rfl).1 h3.l.1 (by rw[K.l];exact jd hr λg hg=>bt.keep g (hr.lt g hg).2 id) (by have:=K.len;omega) u0 u3 u4 λT w9 hT hb=>?_;have b9:But (λ_=>False) wc w9:=But.of_below hb;exact⟨rfl,hT,hT,⟨F,A,lv,wv,h3.idle b9⟩,(((But.same' s1).trans Ch).trans bt).trans b9⟩
end
section
variable {P:Program} {ops:Array Oper} {n m:Nat} {x0:Nat->ae} {KN:Nat->ae->ag->Prop} {J:ag->Prop}
structure RC (P:Program) (ops:Array Oper) (n m:Nat) (x0:Nat->ae) (J:ag->Prop) (KN:Nat->ae->ag->Prop) (Q:Exit->Act->ag->Prop) (listed:Array Bool) (a:Act) (w:ag):Prop where
 size:listed.size=ops.size
 shut:yI ops listed
 go:(listed.getD m true=false/\J w/\∃x,a=⟨lay n x,[]⟩/\(∀s,(∀(j:Nat) o,ops[j]?=some o->o.dst≠some s)->x s=x0 s)/\∀(j:Nat) o d,listed.getD j false=true->ops[j]?=some o->o.dst=some d->KN j (x d) w)\/(listed.getD m false=true/\listed.getD (m+1) true=false/\∃o,ops[m+1]?=some o/\o.wp P a w (λa' w'=>Q .normal a' w') Q)\/(listed.getD m false=true/\listed.getD (m+1) false=true/\Q .normal a w)
end
section
variable {e:aP->ae} {o:Oper} {p q:aP} {w:ag}
theorem yL {s:ByteArray} (h:o.op=.index 9 p q) (hp:e p=.string s) (hq:e q=.int .i64 i) (hi:i<s.size):(aq e o).run prog w=.ok (.value (.int .u8 (s[i]'hi).toNat)) w:=by
 have hu:=underlying9;have h1:(i:Int)<s.size:=by omega
 unfold aq;simp[go_sem,h,hp,hq,hu,hi,aX]
theorem q9v {b:Bool} (h:o.op=.unOp .not 4 p) (hp:e p=.bool b):(aq e o).run prog w=.ok (.value (.bool (!b))) w:=by
 have hu:=underlying4;unfold aq;simp[go_sem,h,hp,hu]
end
def cBk:Code->Code
 |.block _ a=>a
 |c=>c
def cLp:Code->Code
 |.loop a=>a
 |c=>c
def cT:Code->Code
 |.cond _ a _=>a
 |c=>c
def cE:Code->Code
 |.cond _ _ a=>a
 |c=>c
theorem Zl (h:97<=n) (h2:n<=122):letter (b8 n)=true:=by
 unfold letter;rw[AZ (by omega)];simp[h,h2]
def JnL (n:Nat) (R:(Nat->ae)->ag->Prop):Exit->Act->ag->Prop
 |.normal,a,w=>∃x,a=⟨lay n x,[]⟩/\R x w
 |_,_,_=>False
theorem jh {T:Array ae} (hs:T.size=n) (h:R (λi=>T.getD i aV) w):JnL n R .normal ⟨T,[]⟩ w:=⟨_,by rw[AX hs],h⟩
section
variable {N:Blocks} {kv:List ae} {ks eT:List aU} {Z:aU->ag->Prop} {b:aU} {K:List Item} {x:Nat->ae} {w:ag} {n:Nat}
theorem ql.jl {c:Code} (jB:blG b.fn=false) (fI:codeOk XG.P XG.P fb true c=true) (hR:∀x w wc,Same w wc->R x w->R x wc) (hp:∀wc,Same w wc->c.wp prog (JnL n R) ⟨lay n x,[]⟩ wc)
  (nx:∀x' w',R x' w'->ql N kv ks (b.at ⟨lay n x',[]⟩ K) w' eT Z):ql N kv ks (b.at ⟨lay n x,[]⟩ (.code c::K)) w eT Z:=by
 refine ql.code jB (Q:=JnL n R) fI (λe a w h=>by cases e<;>first|trivial|exact h) (λe a w1 wc s h=>by cases e<;>first|exact h.elim|exact⟨h.choose,h.choose_spec.1,hR _ _ _ s h.choose_spec.2⟩) hp ?_;intro e a w2 fr hq hl;cases e<;>first|exact hq.elim|skip
 obtain⟨x',rfl,hr⟩:=hq;cases hl;exact nx x' w2 hr
end
section
variable {w:ag}
theorem iV {v:ae} (h:j<n) (e:x j=v):(aN (lay n x) []).eval (.tmp j)=v:=tmp h e
end
theorem JnL.mono {R':(Nat->ae)->ag->Prop} (h:∀x w,R x w->R' x w) {e:Exit} {a:Act} (q:JnL n R e a w):JnL n R' e a w:=by
 cases e<;>first|exact q|exact⟨q.choose,q.choose_spec.1,h _ _ q.choose_spec.2⟩
section
variable {N:Blocks} {kv:List ae} {ks eT:List aU} {Z:aU->ag->Prop} {b:aU} {K:List Item} {x:Nat->ae} {w:ag} {n:Nat}
theorem ql.jZ {c:Code} {P:(Nat->ae)->Prop} (jB:blG b.fn=false) (fI:codeOk XG.P XG.P fb true c=true) (hp:∀wc,c.wp prog (JnL n λx' w'=>P x'/\Same wc w') ⟨lay n x,[]⟩ wc)
  (nx:∀x' w',P x'->Same w w'->ql N kv ks (b.at ⟨lay n x',[]⟩ K) w' eT Z):ql N kv ks (b.at ⟨lay n x,[]⟩ (.code c::K)) w eT Z:=
 ql.jl (R:=λx' w'=>P x'/\Same w w') jB fI (λ_ _ _ s q=>⟨q.1,q.2.trans s⟩) (λwc sm=>bP (λ_ _ _=>JnL.mono λ_ _ q=>⟨q.1,sm.trans q.2⟩) (hp wc)) λx' w' q=>nx x' w' q.1 q.2
theorem ql.zF {c:Code} {P:(Nat->ae)->Prop} {W:Nat} {s:St} {k:KW} (jB:blG b.fn=false) (fI:codeOk XG.P XG.P fb true c=true) (hp:∀wc,Same w wc->c.wp prog (JnL n λx' w'=>P x'/\y9 w' W s k) ⟨lay n x,[]⟩ wc)
  (nx:∀x' w',P x'->y9 w' W s k->ql N kv ks (b.at ⟨lay n x',[]⟩ K) w' eT Z):ql N kv ks (b.at ⟨lay n x,[]⟩ (.code c::K)) w eT Z:=
 ql.jl (R:=λx' w'=>P x'/\y9 w' W s k) jB fI (λ_ _ _ s q=>⟨q.1,q.2.idle (But.same' s)⟩) hp λx' w' q=>nx x' w' q.1 q.2
end
section
variable {e:aP->ae} {o:Oper} {p q r:aP} {w:ag}
theorem F6 {b:Bool} {v u:ae} (h:o.op=.pick r p q) (hr:e r=.bool b) (hp:e p=v) (hq:e q=u):(aq e o).run prog w=.ok (.value (if b then v else u)) w:=by
 unfold aq;cases b<;>simp[go_sem,h,hp,hq,hr]
end
theorem q6s (n:Nat) (hn:n<4) (f:Nat->Int) (V:ag):(aX 48 (.agg #[.int .i64 (f 0),.int .i64 (f 1),.int .i64 (f 2),.int .i64 (f 3)]) (.int .i64 n)).run prog V=.ok (.int .i64 (f n)) V:=by
 have hu:=underlying48;have hA:=Tryz.isAgg3;have hS:=Tryz.sizeOf3;match n,hn with
 |0,_=>simp[aX,part,go_sem,hu,hA,hS]
 |1,_=>simp[aX,part,go_sem,hu,hA,hS]
 |2,_=>simp[aX,part,go_sem,hu,hA,hS]
 |3,_=>simp[aX,part,go_sem,hu,hA,hS]
theorem I8 {u:ByteArray} {l:Bs} (h:u.data.toList=l):u.size=l.length:=by rw[<-h];simp
end
end Ph
open Go.RowKit Go.Maps
structure NewAt (h:Nat) (W w:ag) (cl j:Nat) (db mb:Nat->Nat):Prop where
 b:∃cur,w.heap[cl]?=some (.cells cur 83 (0,0))/\cur.size=16/\(∀i,i<j->cur[1+i*3]?=some (.int .i64 ((i:Int).tmod (h:Int)))/\cur[1+i*3+1]?=some (.pointer (some ⟨db i,0,none⟩))/\cur[1+i*3+2]?=some (.pointer none))/\cur[0]?=some (.int .i64 h)/\cur[13]?=some (.map (some W.heap.size))/\cur[14]?=some (.int .i64 0)/\cur[15]?=some (.int .i64 0)
 sm:w.heap[W.heap.size]?=some (.map #[] 0)/\W.heap.size<cl
 d:∀i,i<j->w.heap[db i]?=some (.cells #[.map (some (mb i))] 142 (0,0))/\w.heap[mb i]?=some (.map #[] 0)/\cl<db i/\cl<mb i
 ne:∀i i',i<j->i'<j->mb i=mb i'->i=i'
 cl:W.heap.size<=cl
 below:bm W.heap.size W w
theorem NewAt.cells {hh:Nat} {W w:ag} {cl j:Nat} {db mb:Nat->Nat} (h:NewAt hh W w cl j db mb) {k:Nat} (hk:k<16):(∃v,w.cell? ⟨cl,k,none⟩=some v)/\w.frozen? ⟨cl,k,none⟩=false:=by
 obtain⟨cur,h1,h2,_⟩:=h.b;exact⟨⟨cur[k]'(by omega),by simp[aD,h1,show k<cur.size by omega]⟩,by simp[aG,h1]⟩
theorem NewAt.lt {W:ag} (h:NewAt hh W w cl j db mb):cl<w.heap.size:=by
 obtain⟨cur,h1,_⟩:=h.b;exact(yx h1).1
theorem NewAt.made {W:ag} (h:NewAt hh W w cl j db mb) (e:w'=pq (w.drewN 1)):
  NewAt hh W w' cl j db mb/\w'.heap[w.heap.size+1]?=some (.cells #[.map (some w.heap.size)] 142 (0,0))/\w'.heap[w.heap.size]?=some (.map #[] 0)/\(∀i,i<j->mb i<w.heap.size)/\cl<w.heap.size/\w'.heap.size=w.heap.size+2:=by
 subst e;have hz:(pq (w.drewN 1)).heap=(w.heap.push (.map #[] 0)).push (.cells #[.map (some w.heap.size)] 142 (0,0)):=rfl;have old:∀b,b<w.heap.size->(pq (w.drewN 1)).heap[b]?=w.heap[b]?:=λb hb=>by
  rw[hz,aC,if_neg (by simp;omega),aC,if_neg (by omega)]
 obtain⟨cur,h1,h2,h3⟩:=h.b;refine⟨⟨⟨cur,(old _ h.lt).trans h1,h2,h3⟩,⟨(old _ (yx h.sm.1).1).trans h.sm.1,h.sm.2⟩,λi hi=>?_,h.ne,h.cl,?_⟩,?_,?_,λi hi=>?_,h.lt,?_⟩
 ·obtain⟨h4,h5,h6⟩:=h.d i hi;exact⟨(old _ (yx h4).1).trans h4,(old _ (yx h5).1).trans h5,h6⟩
 ·exact⟨h.below.os,h.below.tape,h.below.output,by rw[hz];have:=h.below.size;simp;omega,λk hk=>(old k (xll hk h.below.size)).trans (h.below.block k hk)⟩
 ·rw[hz,aC,if_pos (by simp)]
 ·rw[hz,aC,if_neg (by simp),aC,if_pos rfl]
 ·exact(yx (h.d i hi).2.1).1
 ·rw[hz];simp
theorem NewAt.stored {W:ag} {m:Nat} (h:NewAt hh W w cl j db mb) (hj:j<4)
  (hd:w.heap[m+1]?=some (.cells #[.map (some m)] 142 (0,0))) (hm:w.heap[m]?=some (.map #[] 0)) (dY:∀i,i<j->mb i<m) (mZ:cl<m)
  (e:w'=((w.setCell ⟨cl,1+j*3,none⟩ (.int .i64 ((j:Int).tmod (hh:Int)))).setCell ⟨cl,1+j*3+1,none⟩ (.pointer (some ⟨m+1,0,none⟩))).setCell ⟨cl,1+j*3+2,none⟩ (.pointer none)):NewAt hh W w' cl (j+1) (qi db j (m+1)) (qi mb j m):=by
 subst e;obtain⟨cur,h1,h2,h3⟩:=h.b;have s1:=xhs w cl (1+j*3) cur _ (.int .i64 ((j:Int).tmod (hh:Int))) h1;have s2:=xhs _ cl (1+j*3+1) _ _ (.pointer (some ⟨m+1,0,none⟩)) s1;have s3:=xhs _ cl (1+j*3+2) _ _ (.pointer none) s2;have ho:∀b,b≠cl->(((w.setCell ⟨cl,1+j*3,none⟩ (.int .i64 ((j:Int).tmod (hh:Int)))).setCell ⟨cl,1+j*3+1,none⟩ (.pointer (some ⟨m+1,0,none⟩))).setCell ⟨cl,1+j*3+2,none⟩ (.pointer none)).heap[b]?=w.heap[b]?:=λb hb=>by
  rw[xho _ _ _ _ hb,xho _ _ _ _ hb,xho _ _ _ _ hb]
 obtain⟨h3,p0,Nz,Ny,Nw⟩:=h3;refine⟨⟨_,s3,by simp[h2],λi hi=>?_,?_,?_,?_,?_⟩,⟨(ho _ (by have:=h.sm.2;omega)).trans h.sm.1,h.sm.2⟩,λi hi=>?_,λi i' hi fe he=>?_,h.cl,((h.below.setCell h.cl _).setCell h.cl _).setCell h.cl _⟩
 ·unfold qi;by_cases e:i=j
  ·subst e;rw[if_pos rfl];refine⟨?_,?_,?_⟩
   ·rw[xne (by omega),xne (by omega),xsl (by omega)]
   ·rw[xne (by omega),xsl (by simp;omega)]
   ·rw[xsl (by simp;omega)]
  ·obtain⟨h4,h5,h6⟩:=h3 i (by omega);rw[if_neg e];refine⟨?_,?_,?_⟩
   ·rw[xne (by omega),xne (by omega),xne (by omega),h4]
   ·rw[xne (by omega),xne (by omega),xne (by omega),h5]
   ·rw[xne (by omega),xne (by omega),xne (by omega),h6]
 ·rw[xne (by omega),xne (by omega),xne (by omega),p0]
 ·rw[xne (by omega),xne (by omega),xne (by omega),Nz]
 ·rw[xne (by omega),xne (by omega),xne (by omega),Ny]
 ·rw[xne (by omega),xne (by omega),xne (by omega),Nw]
 ·unfold qi;by_cases e:i=j
  ·rw[if_pos e,if_pos e];exact⟨(ho _ (by omega)).trans hd,(ho _ (by omega)).trans hm,by omega,mZ⟩
  ·rw[if_neg e,if_neg e];obtain⟨h4,h5,h6,h7⟩:=h.d i (by omega);exact⟨(ho _ (by omega)).trans h4,(ho _ (by omega)).trans h5,h6,h7⟩
 ·unfold qi at he;by_cases e1:i=j
  ·by_cases e2:i'=j
   ·omega
   ·rw[if_pos e1,if_neg e2]at he;have:=dY i' (by omega);omega
  ·by_cases e2:i'=j
   ·rw[if_neg e1,if_pos e2]at he;have:=dY i (by omega);omega
   ·rw[if_neg e1,if_neg e2]at he;exact h.ne i i' (by omega) (by omega) he
theorem NewAt.pat {W:ag} (H:NewAt h W w cl 4 db mb):jo w (λb=>W.heap.size<=b) ⟨cl,db,mb,λ_=>none,λ_=>.slice none 0 0,λ_=>.slice none 0 0,λ_=>⟨#[]⟩,W.heap.size,λ_ _=>(0,0,0)⟩ (kP h):=by
 obtain⟨cur,h1,h2,h3,p0,Nz,Ny,Nw⟩:=H.b;have mZ:=H.sm.2;have DW:cur=jw ⟨cl,db,mb,λ_=>none,λ_=>.slice none 0 0,λ_=>.slice none 0 0,λ_=>⟨#[]⟩,W.heap.size,λ_ _=>(0,0,0)⟩ (kP h):=by
  obtain⟨a0,a1,a2⟩:=h3 0 (by decide);obtain⟨b0,b1,b2⟩:=h3 1 (by decide);obtain⟨c0,c1,c2⟩:=h3 2 (by decide);obtain⟨d0,d1,d2⟩:=h3 3 (by decide);rw[q4t]at a0 b0 c0 d0;refine Array.ext_getElem? λi=>?_;by_cases hi:i<16
  ·match i,hi with
   |0,_=>exact p0
   |1,_=>exact a0
   |2,_=>exact a1
   |3,_=>exact a2
   |4,_=>exact b0
   |5,_=>exact b1
   |6,_=>exact b2
   |7,_=>exact c0
   |8,_=>exact c1
   |9,_=>exact c2
   |10,_=>exact d0
   |11,_=>exact d1
   |12,_=>exact d2
   |13,_=>exact Nz
   |14,_=>exact Ny
   |15,_=>exact Nw
   |i+16,hi=>exact absurd hi (by omega)
  ·rw[ac (by omega),ac (by show 16<=i;omega)]
 subst DW;refine⟨⟨H.cl,h1⟩,λi hi=>?_,λi hi=>?_,H.ne,λi hi=>⟨rfl,rfl⟩,λi j g hi hj e=>(by cases e),λi j g hi hj e=>(by cases e),⟨ji _,jY.q3e H.sm.1,λh k x _ _ e=>(by cases e),λh k a b _ _ _ _ e=>(by cases e),λh k _ _ e=>(by cases e)⟩,λi hi=>?_⟩
 ·obtain⟨q1,q2,q3,q4⟩:=H.d i hi;exact⟨by show W.heap.size<=db i;omega,q1⟩
 ·obtain⟨q1,q2,q3,q4⟩:=H.d i hi;exact⟨by show W.heap.size<=mb i;omega,Mi q2⟩
 ·obtain⟨q1,q2,q3,q4⟩:=H.d i hi;show mb i≠W.heap.size;omega
def q5f (h:Nat) (w:ag) (e:Ending) (w':ag):Prop:= ∃A:PA,e=.returned (.tuple #[.pointer (some ⟨A.cl,0,none⟩),.int .i64 0])/\jo w' (λb=>w.heap.size<=b) A (kP h)/\bm w.heap.size w w'
section
variable {w:ag}
theorem Si (h:Nat) (h2:2<=h) (h4:h<=4):aK prog 17 #[.int .i64 h] w (q5f h w):=by
 have Oj:= @run_makeMap prog;have g1:decide ((h:Int)<2)=false:=by simp;omega
 have g2:decide ((4:Int)<h)=false:=by simp;omega
 go_enter func17,ntmps17;go_wp2;go_loopw [16] (λi wr=>∃j:Nat,j<=4/\i=.int .i64 j/\Hid (∃db mb,NewAt h w wr (w.heap.size+1) j db mb)) (λi _=>4-(intOf i).toNat);case atStart=>
  refine⟨0,by omega,rfl,Hd ⟨λ_=>0,λ_=>0,⟨_,heap_alloc_new' _ _ (by simp),?_,λi hi=>(by omega),rfl,rfl,rfl,rfl⟩,⟨?_,by omega⟩,λi hi=>by omega,λi _ hi=>by omega,by omega,((zk _ _).alloc (ji _) _).alloc (by simp) _⟩⟩
  ·rfl
  ·rw[heap_alloc_old _ _ (by simp)];exact aR _ _
 case round=>
  obtain⟨j,hj,rfl,HN⟩:=hrel;by_cases zR:j<4
  ·obtain⟨db,mb,hN⟩:=HN.o;have Fa:=Hd hN;clear hN;go_wp2;go_region_with (first|(go_at_call 39;refine Mh.mono ?_;rintro e w2 ⟨rfl,h2⟩;have H2:=Hd (Fa.out.made h2);obtain⟨⟨v0,c0⟩,f0⟩:=H2.1.cells (k:=1+j*3) (by omega);obtain⟨⟨v1,c1⟩,f1⟩:=H2.1.cells (k:=1+j*3+1) (by omega);obtain⟨⟨v2,c2⟩,f2⟩:=H2.1.cells (k:=1+j*3+2) (by omega);clear h2))
   all_goals
    go_wp2;go_roundw;case rel=>exact⟨j+1,by omega,rfl,Hd ⟨_,_,H2.1.stored zR H2.2.1 H2.2.2.1 H2.2.2.2.1 H2.2.2.2.2.1 rfl⟩⟩
    case measure=>simp[intOf];omega
  ·obtain rfl:j=4:=by omega
   obtain⟨db,mb,hN⟩:=HN.o;have Fa:=Hd hN;clear hN;go_wp2;go_ret2;exact⟨_,rfl,Fa.out.pat,Fa.out.below⟩
end
namespace Ph
section
open Go.Conc Go.ConcN Go.RowKit Go.Maps Go.Conc.Lib Go Sim
section
variable {w w' w0:ag} {F:Nat->Prop} {A:PA} {W:Nat} {lv wv:ae} {s s':St} {k:KW} {G:Nat->GH} {B:Nat}
theorem jo.Vy (h:jo w F A s) (hl:∀i,i<4->(s.kv i).length<=12):Clu w A.cl A.db A.mb s.kv:=⟨λi hi=>⟨_,h.part i hi⟩,h.mbi,hl⟩
def kw0 (w0:ag):KW:=⟨[],λ_=>0,[],0,w0⟩
theorem q8d {A:PA} (hA:A.cl=cl) (h:jo w F A (kP 3)) (lV:∀b,F b->b<w.heap.size) (hF:∀b,F b->w0.heap.size<=b) (hb:But (λb=>w0.heap.size<=b) w0 w):y9 (w.alloc (.cells #[.pointer (some ⟨cl,0,none⟩),.slice none 0 0,.int .i64 0,.int .i64 0,.int .i64 0,.int .i64 0,.slice none 0 0,.int .i64 0] 51)) w.heap.size (kP 3) (kw0 w0):=by
 subst hA;refine⟨F,A,.slice none 0 0,.slice none 0 0,⟨h.below ((zk _ _).alloc (ji _) _),aR _ _,⟨aA _ _ _ _,l6.nil _⟩,aA _ _ _ _,λhF=>absurd (lV _ hF) (Nat.lt_irrefl _),λb e=>(by cases e),λb e=>(by cases e),hb.trans ((But.of_below ((zk w.heap.size w).alloc (ji _) _):But (λ_=>False) w _).mono λ_ (x:False)=>x.elim),hF,hb.size,λb e=>(by cases e)⟩⟩
theorem YG:iq (kP 3) (λ_=>⟨0,0,[]⟩) (kw0 w0) 0:=by
 refine⟨⟨rfl,λk _=>Nat.mod_lt _ (by decide),λ_ _=>List.Pairwise.nil,λ_ _ p hp=>(by cases hp),λ_ _=>xzl _,λi h1 h2=>?_,λ_ _ m h=>(by cases h),λ_ _ m h=>(by cases h),λ_ _ _ _ x h=>(by cases h)⟩,rfl,ji _,λi h1 h2=>?_,λ_ _ m h=>(by cases h),ji _,ji _⟩
 ·have:i<=0:=h2;omega
 ·have:i<=0:=h2;omega
theorem q5r:∀V F2 A2,jo V F2 A2 (kP 2)->aK prog 18 #[.pointer (some ⟨A2.cl,0,none⟩),.string ⟨#[97,98,99]⟩,.string ⟨#[49]⟩] V (j4 V F2 A2 (.int .i64 0) (chS (kP 2) ⟨#[97,98,99]⟩ ⟨#[49]⟩ false)):=λV F2 A2 h=>by
 have e:chE (kP 2) ⟨#[97,98,99]⟩ ⟨#[49]⟩ false=0:=by kernel_rfl
 have:=UC h (λ_ _=>xzl _) (λ_ _ m h=>by cases h) ⟨#[97,98,99]⟩ ⟨#[49]⟩ (by decide);rwa [e]at this
theorem q5q:∀V F2 A2,jo V F2 A2 (chS (kP 2) ⟨#[97,98,99]⟩ ⟨#[49]⟩ false)->aK prog 19 #[.pointer (some ⟨A2.cl,0,none⟩),.string ⟨#[97,98,99]⟩] V λe w'=>e=.returned (.tuple #[.string ⟨#[49]⟩,.int .i64 0])/\bm V.heap.size V w':=λV F2 A2 h=>by
 have e1:∀i,i<4->((chS (kP 2) ⟨#[97,98,99]⟩ ⟨#[49]⟩ false).kv i).length<=12:=λi hi=>by
  match i,hi with
  |0,_=>exact of_decide_eq_true (by kernel_rfl)
  |1,_=>exact of_decide_eq_true (by kernel_rfl)
  |2,_=>exact of_decide_eq_true (by kernel_rfl)
  |3,_=>exact of_decide_eq_true (by kernel_rfl)
 have e2:xZ (chS (kP 2) ⟨#[97,98,99]⟩ ⟨#[49]⟩ false).kv (⟨#[97,98,99]⟩:ByteArray).data.toList=[49]:=by kernel_rfl
 have e3:yA (chS (kP 2) ⟨#[97,98,99]⟩ ⟨#[49]⟩ false).kv (⟨#[97,98,99]⟩:ByteArray).data.toList=0:=by kernel_rfl
 refine(Ry (jo.Vy h e1) ⟨#[97,98,99]⟩ (by decide)).mono λe w' h=>?_;rw[e2,e3]at h;exact h
end
section
variable {w w':ag} {F:Nat->Prop} {A:PA} {W:Nat} {lv wv:ae} {s s':St} {k:KW} {G:Nat->GH} {B:Nat}
theorem LX (a n:Nat) (hn:0<n) (Kz:n<=4398046511104) (h2:a<=4611686018427387904):
  aK prog 47 #[.int .i64 a,.int .i64 n] w λe w'=>(e=.returned (.int .i64 (a%n:Nat))/\w'=w):=by
 have Bo:¬n=0:=by omega
 have g1:decide ((a:Int)<0)=false:=zu (by omega);go_enter func47,ntmps47;go_wp2;go_ret;exact⟨rfl,rfl⟩
theorem q2g (h:KAt w F A W lv wv s k) (n:Nat) (hn:n<4) (ho:s.ow n<3):
  aK prog 76 #[.pointer (some ⟨W,0,none⟩),.int .i64 n] w λe w'=>e=.returned (.int .i64 (s.ow n))/\bm w.heap.size w w':=by
 have HP:=LU h.p;have c0:=(h.cells 0 (.pointer (some ⟨A.cl,0,none⟩)) rfl).1;obtain⟨f,hf⟩:∃f:Nat->Int,f=lkO s 4:=⟨_,rfl⟩
 have fn:f n=(s.ow n:Nat):=by rw[hf];unfold lkO;rw[if_pos hn]
 unfold lH at HP;rw[<-hf]at HP;generalize (Value.int .i64 s.ep)=v0 at HP;generalize (aE (lkM s 4 0))=v1 at HP;generalize (aE (lkM s 4 1))=v2 at HP;generalize (aE (lkM s 4 2))=v3 at HP;generalize (aE (lkM s 4 3))=v4 at HP;generalize (aE (lkS s 4 0))=v5 at HP;generalize (aE (lkS s 4 1))=v6 at HP;generalize (aE (lkS s 4 2))=v7 at HP;generalize (aE (lkS s 4 3))=v8 at HP;obtain⟨o,su⟩:∃o,s.ow n=o:=⟨_,rfl⟩
 rw[su]at fn ho⊢;have HP:=Hd HP;have HK:∀V:ag,aK prog 47 #[.int .i64 o,.int .i64 3] V λe w'=>(e=.returned (.int .i64 o)/\w'=V):=λV=>by
  have:=LX (w:=V) o 3 (by decide) (by decide) (by omega);rwa [Nat.mod_eq_of_lt ho]at this
 have HK:=Hd HK;have uU:=λV=>(yS v0 (.int .i64 (f 0)) (.int .i64 (f 1)) (.int .i64 (f 2)) (.int .i64 (f 3)) v1 v2 v3 v4 v5 v6 v7 v8 V).2.2;have uT:=λV=>q6s n hn f V;clear h hf su;go_enter func76,ntmps76;go_wp2_with (first
  |(go_at_call 35;refine(HP.o).mono ?_;rintro e w1 ⟨rfl,hb⟩;have HX:=Hd hb;clear hb)
  |(go_at_call 47;refine(HK.o _).mono ?_;rintro e w2 ⟨rfl,rfl⟩))
 go_ret;exact⟨rfl,HX.o⟩
def NI:ByteArray:=⟨#[97,98,104,105,110,111,116,117,122]⟩
def kyJ (p q:Nat):ByteArray:=⟨#[NI[p%9]'(Nat.mod_lt p (show 0<9 by decide)),b8 (97+q%5)]⟩
theorem qrs:∀i (h:i<9),letter (NI[i]'h)=true:=by decide
theorem Jd (p q:Nat):iT (kyJ p q).data.toList=true:=by
 have h2:=Nat.mod_lt q (show 0<5 by decide);have e:(kyJ p q).data.toList=[NI[p%9]'(Nat.mod_lt p (show 0<9 by decide)),b8 (97+q%5)]:=rfl;rw[e];have a1:=qrs (p%9) (Nat.mod_lt p (show 0<9 by decide));have a2:=Zl (n:=97+q%5) (by omega) (by omega);unfold iT;simp only[List.all_cons,List.all_nil,a1,a2];rfl
theorem Lx (p q:Nat) (hp:p<256) (hq:q<256):aK prog 44 #[.int .u8 p,.int .u8 q] w λe w'=>e=.returned (.string (kyJ p q))/\bm w.heap.size w w':=by
 have h1:=Nat.mod_lt p (show 0<9 by decide);have h2:=Nat.mod_lt q (show 0<5 by decide);go_enter func44,ntmps44;go_wp2;rw[VS _ w.heap.size _ _ ((⟨#[97,98,104,105,110,111,116,117,122]⟩:ByteArray)[p%9]'h1) (b8 (97+q%5)) rfl (by rw[AZ (by omega)];omega) (VJ _ _ _ _) (VI _ _ _ _)];go_wp2;go_ret;exact⟨rfl,(zk _ _).alloc (ji _) _⟩
theorem ZN (K:iq s G k B) (hk:iT kb.data.toList=true):(oN k.l kb.data.toList=false/\xZ s.kv kb.data.toList=[]/\yA s.kv kb.data.toList=6)\/(oN k.l kb.data.toList=true/\∃v,k.l[oL k.l kb.data.toList]?=some (kb.data.toList,v)/\xZ s.kv kb.data.toList=v/\yA s.kv kb.data.toList=0):=by
 have ko:=K.p.Ed;have sp:=Jf (Nc ko) kb.data.toList;rw[Tf ko (EJ _) rfl]at sp;rw[K.l];unfold xZ yA;rw[if_pos hk,if_pos hk,sp.2.1];cases h:jb (s.kv (je kb.data.toList)) kb.data.toList with
 |none=>exact .inl ⟨rfl,rfl,rfl⟩
 |some v=>exact .inr ⟨rfl,v,sp.2.2.1 v h,rfl,rfl⟩
theorem q6y (h:KAt w F A W lv wv s k) (K:iq s G k B) (kb:ByteArray) (hk:iT kb.data.toList=true) (hs:kb.size<=bu):aK prog 45 #[.pointer (some ⟨W,0,none⟩),.string kb] w λe w'=>e=.returned (.bool true)/\bm w.heap.size w w':=by
 have c0:=(h.cells 0 (.pointer (some ⟨A.cl,0,none⟩)) rfl).1;have hlen:=K.len;have HG:∀V,KAt V F A W lv wv s k->aK prog 19 #[.pointer (some ⟨A.cl,0,none⟩),.string kb] V (Ms V (xZ s.kv kb.data.toList) (yA s.kv kb.data.toList)):=λV hV=>Ry (jo.Vy hV.p K.p.kvl) kb hs;have HT:=Hd (VL h (by omega) kb);have HH:=Hd h;unfold Ms at HG;rcases ZN K hk with⟨a1,a2,a3⟩|⟨a1,v,a2,a3,a4⟩
 ·rw[a1]at HT;rw[a2,a3,show sv []=.string ⟨#[]⟩from rfl]at HG;replace HG:=Hd HG;generalize oL k.l kb.data.toList=ix at HT;clear h K;unfold Ep at HT;go_enter func45,ntmps45;go_wp2_with (first
   |(go_at_call 70;refine(HT.o).mono ?_;rintro e w1 ⟨rfl,hb⟩;have HX:=Hd (aw (HH.below hb) hb);have c1:=(HX.1.cells 0 (.pointer (some ⟨A.cl,0,none⟩)) rfl).1;clear hb)
   |(go_at_call 19;refine(HG.o _ HX.1).mono ?_;rintro e w2 ⟨rfl,hb⟩;have HY:=Hd hb;clear hb))
  go_ret;exact⟨rfl,HX.2.trans (HY.mono HX.2.size)⟩
 ·obtain⟨vb,nC⟩:=qp v;have ev:sv v=.string vb:=jf nC;rcases jU.shape h.l with⟨_,e2⟩|⟨gb,cap,e,c2,c3⟩
  ·rw[e2]at a2;cases a2
  subst e;have dY:=(ao.1 a2).1;have c1:=(h.cells 1 (.slice (some ⟨gb,0,none⟩) k.l.length cap) rfl).1;have hc:=(jU.get h.l _ _ a2).2;rw[show sv (kb.data.toList,v).2=.string vb from ev]at hc;rw[a1]at HT;rw[a3,a4,ev]at HG;replace HG:=Hd HG;generalize oL k.l kb.data.toList=ix at HT hc dY;generalize k.l.length=L at c1 dY;have W1:=xbl w _ c1;have W2:=xbl w _ hc;have DT:(ix:Int)<L:=by omega
  have nD:(0:Int)<=ix:=by omega
  clear h K a2 c2 c3;unfold Ep at HT;go_enter func45,ntmps45;go_wp2_with (first
   |(go_at_call 70;refine(HT.o).mono ?_;rintro e w1 ⟨rfl,hb⟩;have HX:=Hd (aw (HH.below hb) hb);have c4:=(HX.1.cells 0 (.pointer (some ⟨A.cl,0,none⟩)) rfl).1;clear hb)
   |(go_at_call 19;refine(HG.o _ HX.1).mono ?_;rintro e w2 ⟨rfl,hb⟩;have HY:=Hd hb;have BB:=Hd (HX.2.trans (hb.mono HX.2.size));have c5:=(BB.out.cell (p:=⟨W,1,none⟩) W1).trans c1;have c6:=(BB.out.cell (p:=⟨gb,ix*2+1,none⟩) W2).trans hc;clear hb))
  go_ret;exact⟨rfl,BB.out⟩
end
section
variable {s:St} {k:KW} {G:Nat->GH} {B:Nat}
structure VX (s s':St):Prop where
 ow:s'.ow=s.ow
 id:s'.id=s.id
 sg:s'.sg=s.sg
 ep:s'.ep=s.ep
 mv:∀i,s'.mv i=s.mv i\/∃m c,s.mv i=some m/\s'.mv i=some {m with cs:=m.cs++[c]}
theorem iq.up (K:iq s G k B) {B':Nat} (h:B<=B'):iq s G k B':=⟨K.p,K.l,xlt K.id h,λi a b=>xlt (K.fs i a b) h,λi a m b=>xlt (K.cs i a m b) h,xlt K.ep h,xlt K.seen h⟩
theorem iq.write (K:iq s G k B) {v:ByteArray} {g:Bool} (hk:iT kb.data.toList=true) (hv:v.data.toList.length<=12) (hg:g=true->v.data.toList=[]):
  iq (wrS s k kb v g).1 G (wrS s k kb v g).2 (B+1)/\Grown s G (wrS s k kb v g).1 G/\VX s (wrS s k kb v g).1:=by
 obtain⟨n,hn⟩:∃n,je kb.data.toList=n:=⟨_,rfl⟩
 obtain⟨has,hh⟩:∃b,oN k.l kb.data.toList=b:=⟨_,rfl⟩
 have sD:n<4:=hn▸EJ _;have idle:∀c,chE s kb v g=c->c≠0->chS s kb v g=s->iq (wrS s k kb v g).1 G (wrS s k kb v g).2 (B+1)/\Grown s G (wrS s k kb v g).1 G/\VX s (wrS s k kb v g).1:=λc h1 h2 h3=>by
  unfold wrS;rw[h3,h1,if_neg h2];exact⟨K.up (aj _),Grown.refl _ _,⟨rfl,rfl,rfl,rfl,λi=>.inl rfl⟩⟩
 rcases QN K.p K.l (v:=v) (g:=g) hk hv hg hn hh with⟨_,a2,a3⟩|⟨a1,(⟨_,_,b3,b4⟩|⟨_,_,_,b4,b5⟩|⟨b1,_,_,b4,b5,b6⟩)⟩
 ·exact idle 5 a2 (by decide) a3
 ·exact idle 6 b3 (by decide) b4
 ·exact idle 4 b4 (by decide) b5
 ·obtain⟨p1,p2⟩:=K.p.chg sD (c:=⟨kb.data.toList,v.data.toList,g⟩) ⟨by unfold iZ;simp[hk,hn];simpa using hv,hg⟩ b5 a1;unfold wrS;rw[b1,if_pos rfl,b4];have eu:∀i,qi s.mv n ((s.mv n).map λm=>{m with cs:=m.cs++[⟨kb.data.toList,v.data.toList,g⟩]}) i=s.mv i\/∃m c,s.mv i=some m/\qi s.mv n ((s.mv n).map λm=>{m with cs:=m.cs++[⟨kb.data.toList,v.data.toList,g⟩]}) i=some {m with cs:=m.cs++[c]}:=λi=>by
   by_cases e:i=n
   ·subst e;rw[qx];cases hm:s.mv i with
    |none=>exact .inl rfl
    |some m=>exact .inr ⟨m,_,rfl,rfl⟩
   ·left;unfold qi;rw[if_neg e]
  refine⟨⟨p1,b6,xlt K.id (aj _),λi a b=>xlt (K.fs i a b) (aj _),λi hi m hm=>?_,xlt K.ep (aj _),bp K.seen⟩,p2,⟨rfl,rfl,rfl,rfl,eu⟩⟩;rcases eu i with e|⟨m0,c,e1,e2⟩
  ·have hm:qi s.mv n ((s.mv n).map λm=>{m with cs:=m.cs++[⟨kb.data.toList,v.data.toList,g⟩]}) i=some m:=hm;rw[e]at hm;exact xlt (K.cs i hi m hm) (aj _)
  ·have hm:qi s.mv n ((s.mv n).map λm=>{m with cs:=m.cs++[⟨kb.data.toList,v.data.toList,g⟩]}) i=some m:=hm;rw[e2]at hm;cases hm;have:=K.cs i hi m0 e1;simp;exact this
end
end
section
open Go.Proofs.YtkpekiajdlolnabGreat
theorem TQ:∀(cs:List Chg) (L:KV),(cs.foldl doL L).length<=L.length+cs.length
 |[],L=>ji _
 |c::cs,L=>by
  have:=TQ cs (doL L c);have:=Rj L c;simp only[List.foldl_cons,List.length_cons];omega
def muM (m:Mv):Nat:=(if m.n=0 then 2 else 0)+3*m.ps.length+2*m.cs.length
structure Rd (s:St) (G:Nat->GH) (k:KW) (m:Mv) (B:Nat):Prop where
 K:iq s G k B
 id:s.id=1
 mv:s.mv 2=some m
 mid:m.id=1
 to:m.to=1
 fr:m.fr=2
 sent:m.sent=[]
 sg:∀a b x,s.sg a b=some x->a=1/\b=2/\m.n≠0/\x.id=1/\x.next=m.n/\x.done=false/\x.kv.length<=40*m.n
 has:m.n≠0->(s.sg 1 2).isSome=true
structure RdOut (s:St) (k:KW) (m:Mv) (B:Nat) (s1 s2 s3:St) (u a:Bs):Prop where
 v1:nfV s 2=u
 e1:nxE s 2=0
 r1:nfS s 2=s1
 v2:nfV s1 2=u
 e2:nxE s1 2=0
 r2:nfS s1 2=s1
 ul:9<=u.length/\u.length<=57
 k1:∃G,iq s1 G k (B+1)
 h1:s1.hosts=3
 g1:∀h k x,h<4->k<4->s1.sg h k=some x->x.kv.length<=268435456/\x.next<=4611686018427387904/\x.id<=4611686018427387904
 d1:dlR s1 1 u=(a,s2)
 k2:∃G,iq s2 G k (B+1)
 h2:s2.hosts=3
 g2:∀h k x,h<4->k<4->s2.sg h k=some x->x.kv.length<=268435456/\x.next<=4611686018427387904/\x.id<=4611686018427387904
 d2:dlR s2 1 u=(a,s2)
 al:1<=a.length/\a.length<=57
 p1:rpE s2 2=0
 p2:rpS s2 2 a=s3
 k3:∃G,iq s3 G k (B+1)
 way:(s3.mv 2=none/\s3.ow 2=1)\/∃m3 G,Rd s3 G k m3 (B+1)/\muM m3+2<=muM m/\m3.n=m.n+1/\rpE s3 2=0/\rpS s3 2 a=s3
section
variable {s:St} {k:KW} {G:Nat->GH} {B:Nat} {m:Mv}
theorem y5 (h:n<128*128):1<=(vz n).length/\(vz n).length<=2:=by
 by_cases h1:n<128
 ·rw[vo h1];simp
 ·rw[yR h1,vo (by omega)];simp
theorem jcw {f:Fr} (hi:f.id<128*128) (hn:f.n<128*128) (hl:f.load.length<=40):9<=f.bytes.length/\f.bytes.length<=57:=by
 have h1:=y5 hi;have h2:=y5 hn;have h3:=y5 (n:=f.load.length) (by omega);have e:f.bytes.length=2+(vz f.id).length+(vz f.n).length+(vz f.load.length).length+f.load.length+4:=by
  simp[Fr.bytes,Fr.body,ve,le4];omega
 omega
theorem iq.begin (K:iq s G k B) {to:Nat} (hn:n<4) (ht:to<3):∃G',iq (bgS s n to) G' k (B+1)/\Grown s G (bgS s n to) G':=by
 obtain⟨p,gr⟩:=K.p.begin hn ht;have eu:∀i m,(bgS s n to).mv i=some m->i=n/\m=bgM s n to\/i≠n/\s.mv i=some m:=λi m h=>by
  replace h:qi s.mv n (some (bgM s n to)) i=some m:=h;by_cases e:i=n
  ·subst e;rw[qx]at h;exact .inl ⟨rfl,(xoi h).symm⟩
  ·rw[qw _ _ e]at h;exact .inr ⟨e,h⟩
 refine⟨_,⟨p,K.l,bp K.id,λi h1 h2=>?_,λi hi m hm=>?_,aa K.ep,aa K.seen⟩,gr⟩
 ·by_cases e:i=s.id+1
  ·rw[if_pos e];exact xzl _
  ·rw[if_neg e];exact aa (K.fs i h1 (by have:i<=s.id+1:=h2;omega))
 ·rcases eu i m hm with⟨_,rfl⟩|⟨_,h⟩
  ·exact xzl _
  ·exact aa (K.cs i hi m h)
theorem iq.kw {k':KW} (K:iq s G k B) (hl:k'.l=k.l) (hs:k'.seen=k.seen):iq s G k' B:=⟨K.p,hl.trans K.l,K.id,K.fs,K.cs,K.ep,by rw[hs];exact K.seen⟩
end
theorem q63 {x y:Nat} (hx:x<2^32) (hy:y<2^32) (h:le4 x=le4 y):x=y:=by
 unfold le4 at h;simp only[List.cons.injEq,and_true]at h;obtain⟨h0,h1,h2,h3⟩:=h;have e:∀a:Nat,(b8 a).toNat=a%256:=λa=>by simp[b8]
 have g0:=congrArg UInt8.toNat h0;have g1:=congrArg UInt8.toNat h1;have g2:=congrArg UInt8.toNat h2;have g3:=congrArg UInt8.toNat h3;rw[e,e]at g0 g1 g2 g3;omega
theorem qnj {f:Fr} {l r:Bs} {a b:UInt8} (h:f.bytes=l++a::r) (gG:a≠b):jM (l++b::r)=none:=by
 have hlen:f.body.length+4=l.length+r.length+1:=by
  have:=congrArg List.length h;simp[Fr.bytes,le4]at this;omega
 have e1:(l++b::r).length-4=f.body.length:=by simp;omega
 unfold jM;rw[if_neg (by simp;omega),e1];refine if_neg λh2=>?_;by_cases hl:l.length<f.body.length
 ·-- in the body
  obtain⟨r1,Bl⟩:∃r1,f.body=l++a::r1:=by
   have t:=congrArg (List.take f.body.length) h;rw[Fr.bytes,List.take_left',List.take_append]at t
   ·obtain⟨j,hj⟩:∃j,f.body.length-l.length=j+1:=⟨f.body.length-l.length-1,by omega⟩
    rw[hj,List.take_succ_cons,aF (by omega)]at t;exact⟨_,t⟩
   ·rfl
  have hr:r=r1++le4 (chk f.body):=by
   rw[Fr.bytes]at h
   conv at h=>lhs;arg 1;rw[Bl]
   rw[aQ]at h;have:=List.append_cancel_left h;simpa using this.symm
  have hb:f.body.length=(l++b::r1).length:=by rw[Bl];simp
  have e2:l++b::r=(l++b::r1)++le4 (chk f.body):=by rw[hr];simp
  rw[e2,hb,List.drop_left,List.take_left,Bl]at h2;exact qq4 l r1 gG (q63 (I7 _) (I7 _) h2)
 ·-- behind it
  obtain⟨l1,Bp⟩:∃l1,l=f.body++l1:=by
   have t:=congrArg (List.take f.body.length) h;rw[Fr.bytes,List.take_left' rfl,List.take_append_of_le_length (by omega)]at t;exact⟨l.drop f.body.length,by conv=>lhs;rw[<-ay f.body.length l];rw[<-t]⟩
  rw[Bp,aQ,List.drop_left,List.take_left]at h2;rw[Bp,Fr.bytes,aQ]at h;have h3:=List.append_cancel_left h;rw[<-h2]at h3;have:=List.append_cancel_left h3;exact gG (List.cons.inj this).1.symm
structure SI (s:St) (G:Nat->GH) (k:KW) (B:Nat):Prop where
 K:iq s G k B
 to:∀i,i<4->∀m,s.mv i=some m->m.to=k.to i
 tl:∀i,k.to i<3
 way:∀p∈k.way,p.host<3/\(p.rep=true->uy s G p.s)/\(p.rep=false->tq s G p.host p.s)
 wl:k.way.length<=B
section
variable {s s':St} {k k':KW} {G G':Nat->GH} {B:Nat}
theorem SI.step (S:SI s G k B) (K':iq s' G' k' (B+1)) (gr:Grown s G s' G') (tV:k'.to=k.to) (hw:k'.way=k.way) (hm:∀i,i<4->∀m',s'.mv i=some m'->∃m,s.mv i=some m/\m'.to=m.to):SI s' G' k' (B+1):=
 ⟨K',λi hi m' h=>by
  obtain⟨m,h1,h2⟩:=hm i hi m' h;rw[h2,tV];exact S.to i hi m h1,λi=>by rw[tV];exact S.tl i,λp hp=>by
  rw[hw]at hp;obtain⟨a,b,c⟩:=S.way p hp
  exact⟨a,λe=>(b e).grown S.K.p gr,λe=>(c e).grown gr⟩,by rw[hw];exact aa S.wl⟩
theorem SI.add (S:SI s G k B) {p:Pst} (h:p.host<3/\(p.rep=true->uy s G p.s)/\(p.rep=false->tq s G p.host p.s)):SI s G {k with way:=k.way++[p]} (B+1):=
 ⟨(S.K.up (aj _)).kw rfl rfl,S.to,S.tl,λq hq=>(aZ.1 hq).elim (S.way q) λhq=>by rw[List.mem_singleton.1 hq];exact h,by
  show(k.way++[p]).length<=_;rw[bd]
  exact bp S.wl⟩
theorem SI.up (S:SI s G k B) {B':Nat} (h:B<=B'):SI s G k B':=⟨S.K.up h,S.to,S.tl,S.way,xlt S.wl h⟩
theorem SI.write (S:SI s G k B) {v:ByteArray} {g:Bool} (hk:iT kb.data.toList=true) (hv:v.data.toList.length<=12) (hg:g=true->v.data.toList=[]):SI (wrS s k kb v g).1 G (wrS s k kb v g).2 (B+1):=by
 obtain⟨K',gr,o⟩:=S.K.write hk hv hg;refine S.step K' gr (by unfold wrS;split<;>rfl) (by unfold wrS;split<;>rfl) λi hi m' h=>?_;rcases o.mv i with e|⟨m,c,e1,e2⟩
 ·exact⟨m',by rw[<-e];exact h,rfl⟩
 ·rw[e2]at h;cases h;exact⟨m,e1,rfl⟩
theorem SI.move (S:SI s G k B) {to:Nat} (hn:n<4) (ht:to<3):∃G',SI (bgS s n to) G' {k with to:=qi k.to n to} (B+1):=by
 obtain⟨G',K',gr⟩:=S.K.begin hn ht;have eu:∀i m,(bgS s n to).mv i=some m->i=n/\m=bgM s n to\/i≠n/\s.mv i=some m:=λi m h=>by
  replace h:qi s.mv n (some (bgM s n to)) i=some m:=h;by_cases e:i=n
  ·subst e;rw[qx]at h;exact .inl ⟨rfl,(xoi h).symm⟩
  ·rw[qw _ _ e]at h;exact .inr ⟨e,h⟩
 refine⟨G',⟨K'.kw rfl rfl,λi hi m hm=>?_,λi=>?_,λq hq=>?_,aa S.wl⟩⟩
 ·show m.to=qi k.to n to i;rcases eu i m hm with⟨rfl,rfl⟩|⟨e,h⟩
  ·rw[qx];rfl
  ·rw[qw _ _ e];exact S.to i hi m h
 ·show qi k.to n to i<3;by_cases e:i=n
  ·rw[e,qx];exact ht
  ·rw[qw _ _ e];exact S.tl i
 ·obtain⟨a,b,c⟩:=S.way q hq;exact⟨a,λe=>(b e).grown S.K.p gr,λe=>(c e).grown gr⟩
theorem tq.len (f:tq s G h u) (K:iq s G k B) (hB:B<=10000):9<=u.length/\u.length<=57:=by
 obtain⟨i,n,f,h1,h2,h3,h4,rfl⟩:=f;have:=K.id;have:=K.fs i h1 h2;have:=(ao.1 h3).1;exact jcw (by show i<_;omega) (by show n<_;omega) ((K.p.g i h1 h2).1.f n f h3).1
theorem tq.is (f:tq s G h u):∃f:Fr,u=f.bytes:=by
 obtain⟨i,n,f,_,_,_,_,e⟩:=f;exact⟨_,e⟩
theorem uy.is (f:uy s G u):∃f:Fr,u=f.bytes:=by
 obtain⟨i,n,f,_,_,_,_,e,_⟩:=f;exact⟨_,e⟩
theorem MZ (h:n<268435456):(vz n).length<=4:=by
 by_cases h1:n<128
 ·rw[vo h1];simp
 ·rw[yR h1];by_cases h2:n/128<128
  ·rw[vo h2];simp
  ·rw[yR h2];by_cases h3:n/128/128<128
   ·rw[vo h3];simp
   ·rw[yR h3,vo (by omega)];simp
theorem uy.len (f:uy s G u) (K:iq s G k B) (hB:B<=10000):1<=u.length/\u.length<=57:=by
 obtain⟨i,n,kd,_,h2,_,h4,e,_⟩:=f;have:=K.id;have e2:u.length=2+(vz i).length+(vz n).length+(vz 0).length+4:=by
  rw[e];simp[Fr.bytes,Fr.body,ve,le4];omega
 have:=MZ (n:=i) (by omega);have:=MZ h4;have:=MZ (n:=0) (by decide);omega
theorem SI.next (S:SI s G k B) (hB:B<=9000) (hn:n<4) (hm:s.mv n=some m):nxE s n=0/\9<=(nfV s n).length/\∃G',SI (nfS s n) G' {k with way:=k.way++[⟨k.to n,false,nfV s n⟩]} (B+2):=by
 have K:=S.K;have e0:nxE s n=0:=by
  unfold nxE;rw[if_neg (by omega),show((n:Int)).toNat=n from rfl,hm]
 by_cases he:m.sent=[]
 ·have zY:m.sent.isEmpty=true:=by rw[he];rfl
  have e1:nfV s n=(nfM n m).sent:=by
   unfold nfV;rw[if_neg (by omega),show((n:Int)).toNat=n from rfl,hm];simp only[zY,if_true]
  have e2:nfS s n={s with mv:=qi s.mv n (some (nfM n m))}:=by
   unfold nfS;rw[if_neg (by omega),show((n:Int)).toNat=n from rfl,hm];simp only[zY,if_true]
  obtain⟨f,q,gr,fo,ll⟩:=K.p.next hn hm he;have eu:∀i y,qi s.mv n (some (nfM n m)) i=some y->i=n/\y=nfM n m\/i≠n/\s.mv i=some y:=λi y h=>by
   by_cases e:i=n
   ·subst e;rw[qx]at h;exact .inl ⟨rfl,(xoi h).symm⟩
   ·rw[qw _ _ e]at h;exact .inr ⟨e,h⟩
  have K':iq {s with mv:=qi s.mv n (some (nfM n m))} (vF G m.id f) k (B+1):=by
   refine⟨q,K.l,aa K.id,λi h1 h2=>?_,λi hi y hy=>?_,aa K.ep,aa K.seen⟩
   ·have:=K.fs i h1 h2;by_cases e:i=m.id
    ·subst e;rw[wV];simpa using this
    ·rw[Ev _ _ e];omega
   ·rcases eu i y hy with⟨rfl,rfl⟩|⟨_,h⟩
    ·exact aa (K.cs i hi m hm)
    ·exact aa (K.cs i hi y h)
  have S':=S.step K' gr rfl rfl λi hi y hy=>by
   rcases eu i y hy with⟨rfl,rfl⟩|⟨_,h⟩
   ·exact⟨m,hm,rfl⟩
   ·exact⟨y,h,rfl⟩
  rw[S.to n hn m hm]at fo;refine⟨e0,?_,vF G m.id f,?_⟩
  ·rw[e1];exact(fo.len K' (by omega)).1
  ·rw[e1,e2];exact S'.add ⟨S.tl n,λe=>(by cases e),λ_=>fo⟩
 ·have zY:m.sent.isEmpty=false:=by
   cases h:m.sent with
   |nil=>exact absurd h he
   |cons=>rfl
  have e1:nfV s n=m.sent:=by
   unfold nfV;rw[if_neg (by omega),show((n:Int)).toNat=n from rfl,hm];simp only[zY,bz,if_false]
  have e2:nfS s n=s:=by
   unfold nfS;rw[if_neg (by omega),show((n:Int)).toNat=n from rfl,hm];simp only[zY,bz,if_false]
  obtain⟨a1,a2,o⟩:=K.p.mv n hn m hm;obtain⟨ld,c1,c2,_⟩:=o.cur he;have fo:tq s G (k.to n) m.sent:=⟨m.id,m.n,_,a1,a2,c2,by rw[o.to];exact S.to n hn m hm,by rw[o.sh];exact c1⟩
  refine⟨e0,?_,G,?_⟩
  ·rw[e1];exact(fo.len K (by omega)).1
  ·rw[e1,e2];exact(S.add ⟨S.tl n,λe=>(by cases e),λ_=>fo⟩).up (aj _)
theorem GH.UJ {g:GH} (h:g.Ok):∀n,(g.kv n).length<=40*n
 |0=>xzl _
 |n+1=>by
  have ih:=GH.UJ h n;by_cases hn:n<g.fs.length
  ·obtain⟨f,hf⟩:∃f,g.fs[n]?=some f:=⟨_,aM hn⟩
   rw[GH.FW _ hf];have hl:=(h.f n f hf).1;unfold Ce;split
   ·cases hc:ny f.1 g.sh f.2 with
    |none=>simp;omega
    |some cs=>
     have h1:=(RN hc).2;have h2:=TQ cs (g.kv n);simp only[bE];omega
   ·omega
  ·have:g.kv (n+1)=g.kv n:=by
    unfold GH.kv;rw[aF (by omega),aF (by omega)]
   rw[this];omega
theorem iq.sgl (K:iq s G k B) (hB:B<=10000):∀h j x,h<4->j<4->s.sg h j=some x->x.kv.length<=268435456/\x.next<=4611686018427387904/\x.id<=4611686018427387904:=λh j x hh hj hx=>by
 obtain⟨a1,a2,o⟩:=K.p.sg h j hh hj x hx;have h1:=K.id;have h2:=K.fs x.id a1 a2;have h3:=o.n2;have h4:=GH.UJ (K.p.g x.id a1 a2).1 x.next;rw[o.kv];exact⟨by omega,by omega,by omega⟩
theorem SI.Ma (S:SI s G k B) (hB:B<=9000) {p:Pst} (hp:p∈k.way) (hr:p.rep=false) {h0:Nat} (h0l:h0<3):
  dlE s p.host=0/\SI (dlR s p.host p.s).2 G k (B+1)/\((dlR s p.host p.s).1≠[]->SI (dlR s p.host p.s).2 G {k with way:=k.way++[⟨h0,true,(dlR s p.host p.s).1⟩]} (B+2)):=by
 have K:=S.K;obtain⟨hh,_,fo⟩:=S.way p hp;obtain⟨i,n,f,h1,h2,h3,h4,h5,h6⟩:=(fo hr).read K.p (by have:=K.id;omega) λi a b=>by have:=K.fs i a b;omega
 have hn:=(ao.1 h3).1;have hl:=K.fs i h1 h2;have q:=K.p.Ma h1 h2 h3 h4 (by omega);have edge:¬((p.host:Int)<0\/(s.hosts:Int)<=p.host):=by rw[K.p.hosts];omega
 have mh:=(K.p.g i h1 h2).1;have jF:1<=f.1/\f.1<=4:=by
  by_cases h0:n=0
  ·subst h0;rw[mh.n0 f h3];decide
  ·rcases(mh.f n f h3).2 h0 with⟨h|h,_⟩|⟨rfl,_⟩
   ·omega
   ·omega
   ·decide
 have hd:Cc ⟨f.1,(G i).sh,i,n,f.2⟩=true:=by
  unfold Cc;simp[jF.1,jF.2,mh.sh]
 have e:dlR s p.host p.s=((dlF ⟨f.1,(G i).sh,i,n,f.2⟩ (s.sg p.host (G i).sh)).1,{s with sg:=zo s.sg p.host (G i).sh (dlF ⟨f.1,(G i).sh,i,n,f.2⟩ (s.sg p.host (G i).sh)).2}):=by
  unfold dlR;rw[if_neg edge,h5];simp only[hd,if_true];rfl
 rw[e];obtain⟨q1,gr,q3⟩:=q;have K':iq {s with sg:=zo s.sg p.host (G i).sh (dlF ⟨f.1,(G i).sh,i,n,f.2⟩ (s.sg p.host (G i).sh)).2} G k (B+1):=⟨q1,K.l,aa K.id,λi a b=>aa (K.fs i a b),λi hi m hm=>aa (K.cs i hi m hm),aa K.ep,aa K.seen⟩
 have S':=S.step K' gr rfl rfl λi hi m hm=>⟨m,hm,rfl⟩
 refine⟨by unfold dlE;rw[if_neg edge],S',λeB=>S'.add ⟨h0l,λ_=>q3.resolve_left eB,λe=>(by cases e)⟩⟩
theorem SI.Np (S:SI s G k B) (hB:B<=9000) {p:Pst} (hp:p∈k.way) (hr:p.rep=true):rpE s p.host=0/\∃G',SI (rpS s p.host p.s) G' k (B+1):=by
 have K:=S.K;obtain⟨hh,ro,_⟩:=S.way p hp;obtain⟨i,n,kd,h1,h2,h3,h4,h5,h6⟩:=ro hr;have edge:¬((p.host:Int)<0\/(s.hosts:Int)<=p.host):=by rw[K.p.hosts];omega
 have iM:=(K.p.g i h1 h2).1.sh;have hid:=K.id;have Aok:Fr.Ok ⟨kd,(G i).sh,i,n,[]⟩:=⟨by show kd<256;omega,by show(G i).sh<256;omega,by show i<_;omega,h4,by show 0<268435456;decide⟩
 have e:rpS s p.host p.s=rpF s p.host ⟨kd,(G i).sh,i,n,[]⟩:=by
  unfold rpS;rw[if_neg edge,h5,Uc Aok];rfl
 obtain⟨G',q,gr,Vf,WZ,xA⟩:=K.p.Np (h:=p.host) (n:=n) (kd:=kd) h1 h2 h6;rw[e];obtain⟨f,hf⟩:∃f:Fr,f=⟨kd,(G i).sh,i,n,[]⟩:=⟨_,rfl⟩
 rw[<-hf]at q gr Vf xA WZ⊢;have eu:∀j m',(rpF s p.host f).mv j=some m'->∃m,s.mv j=some m/\m'.to=m.to/\m'.cs.length<=m.cs.length:=λj m' h=>by
  have one:∀(m m2:Mv),s.mv f.qg=some m->m2.to=m.to->m2.cs.length<=m.cs.length->qi s.mv f.qg (some m2) j=some m'->∃m,s.mv j=some m/\m'.to=m.to/\m'.cs.length<=m.cs.length:=λm m2 h1 h2 h3 h4=>by
   by_cases e:j=f.qg
   ·rw[e,qx]at h4;cases h4;exact⟨m,by rw[e];exact h1,h2,h3⟩
   ·rw[qw _ _ e]at h4;exact⟨m',h4,rfl,ji _⟩
  unfold rpF at h;split at h
  ·split at h
   ·exact⟨m',h,rfl,ji _⟩
   ·rename_i m hm;split at h
    ·split at h
     ·exact one m (bgM s f.qg m.to) hm rfl (xzl _) h
     ·split at h
      ·unfold akS at h;split at h
       ·replace h:qi s.mv f.qg none j=some m':=h;by_cases e:j=f.qg
        ·rw[e,qx]at h;cases h
        ·rw[qw _ _ e]at h;exact⟨m',h,rfl,ji _⟩
       ·refine one m (akM m) hm ?_ ?_ h
        ·unfold akM;split
         ·rfl
         ·split<;>rfl
        ·unfold akM;split
         ·exact ji _
         ·split
          ·show(m.cs.drop _).length<=_;rw[List.length_drop];omega
          ·exact ji _
      ·exact⟨m',h,rfl,ji _⟩
    ·exact⟨m',h,rfl,ji _⟩
  ·exact⟨m',h,rfl,ji _⟩
 have KE:(rpF s p.host f).ep<=s.ep+1:=by
  unfold rpF;split
  ·split
   ·exact aj _
   ·split
    ·split
     ·exact aj _
     ·split
      ·unfold akS;split
       ·exact ji _
       ·exact aj _
      ·exact aj _
    ·exact aj _
  ·exact aj _
 have hep0:=K.ep;have vX:∀j,1<=j->j<=(rpF s p.host f).id->(G' j).fs.length<=B+1:=λj a b=>by
  rcases WZ j b with⟨c,e⟩|e
  ·rw[e];exact aa (K.fs j a c)
  ·rw[e];exact xzl _
 have K':iq (rpF s p.host f) G' k (B+1):=⟨q,by rw[Vf];exact K.l,by omega,vX,λj hj m hm=>by
  obtain⟨m0,a,_,c⟩:=eu j m hm;have:=K.cs j hj m0 a
  omega,by omega,aa K.seen⟩
 refine⟨by unfold rpE;rw[if_neg edge],G',S.step K' gr rfl rfl λj hj m hm=>?_⟩;obtain⟨m0,a,b,_⟩:=eu j m hm;exact⟨m0,a,b⟩
theorem SI.abort (S:SI s G k B):SI (abS s n) G k (B+1):=by
 have K:=S.K;unfold abS;split
 ·exact S.up (aj _)
 ·split
  ·exact S.up (aj _)
  ·split
   ·exact S.up (aj _)
   ·obtain⟨q,gr⟩:=K.p.drop ((n:Int)).toNat;have eu:∀j m',qi s.mv ((n:Int)).toNat none j=some m'->s.mv j=some m':=λj m' h=>by
     by_cases e:j=((n:Int)).toNat
     ·rw[e,qx]at h;cases h
     ·rw[qw _ _ e]at h;exact h
    exact S.step ⟨q,K.l,aa K.id,λi a b=>aa (K.fs i a b),λi hi m hm=>aa (K.cs i hi m (eu i m hm)),aa K.ep,aa K.seen⟩ gr rfl rfl λi hi m hm=>⟨m,eu i m hm,rfl⟩
theorem SI.restart (S:SI s G k B) {h:Int}:SI (rsR s h) G k (B+1):=by
 have K:=S.K;unfold rsR;split
 ·exact S.up (aj _)
 ·obtain⟨q,gr⟩:=K.p.restart h.toNat;exact S.step ⟨q,K.l,aa K.id,λi a b=>aa (K.fs i a b),λi hi m hm=>aa (K.cs i hi m hm),aa K.ep,aa K.seen⟩ gr rfl rfl λi hi m hm=>⟨m,hm,rfl⟩
end
end
section
open Go.Conc Go.ConcN Go.RowKit Go.Maps Go.Conc.Lib Go Sim
structure FxOk (w:ag) (F:Nat->Prop) (W:Nat) (lv wv:ae) (k:KW) (p:Nat×Obj):Prop where
 at':w.heap[p.1]?=some p.2
 nF:¬F p.1
 nW:p.1≠W
 nl:lv.ownBlock≠some p.1
 nw:wv.ownBlock≠some p.1
 lo:k.w0.heap.size<=p.1
def zh (cl W:Nat) (s:St) (k:KW) (fx:List (Nat×Obj)) (w:ag):Prop:= ∃(F:Nat->Prop) (A:PA) (lv wv:ae),A.cl=cl/\KAt w F A W lv wv s k/\(∀b,F b->b<w.heap.size)/\∀p∈fx,FxOk w F W lv wv k p
section
variable {w w':ag} {cl W:Nat} {s s':St} {k k':KW} {fx:List (Nat×Obj)} {G:Nat->GH} {B:Nat} {F:Nat->Prop} {A:PA} {lv wv:ae}
theorem KAt.lts (h:KAt w F A W lv wv s k):KAt w (λb=>F b/\b<w.heap.size) A W lv wv s k:=h.turn h.p.lts rfl (But.refl _ _) λ_ _ x=>x.1
theorem y9.br (h:y9 w W s k):∃cl,zh cl W s k [] w:=by
 obtain⟨F,A,lv,wv,h⟩:=h;exact⟨A.cl,_,A,lv,wv,rfl,h.lts,λb x=>x.2,λp hp=>by cases hp⟩
theorem zh.in (h:zh cl W s k fx w):y9 w W s k:=by
 obtain⟨F,A,lv,wv,_,h,_⟩:=h;exact⟨F,A,lv,wv,h⟩
theorem zh.idle (h:zh cl W s k fx w) (hb:But (λ_=>False) w w'):zh cl W s k fx w':=by
 obtain⟨F,A,lv,wv,e,h,lo,hx⟩:=h;refine⟨F,A,lv,wv,e,h.idle hb,λb x=>xll (lo b x) hb.size,λp hp=>?_⟩;obtain⟨a1,a2,a3,a4,a5,a6⟩:=hx p hp;exact⟨by rw[hb.keep p.1 (yx a1).1 id];exact a1,a2,a3,a4,a5,a6⟩
theorem zh.below (h:zh cl W s k fx w) (hb:bm w.heap.size w w'):zh cl W s k fx w':=h.idle (But.of_below hb)
theorem zh.drew (h:zh cl W s k fx w):zh cl W s k fx w.drew:=h.idle (But.of_below (Below.drewN' (zk _ _) 1))
theorem zh.cons (h:zh cl W s k fx w) (hb:bm w.heap.size w w') {b:Nat} {o:Obj} (lV:w.heap.size<=b) (ho:w'.heap[b]?=some o):zh cl W s k ((b,o)::fx) w':=by
 have h':=h.below hb;obtain⟨F,A,lv,wv,e,h,lo,hx⟩:=h;refine⟨F,A,lv,wv,e,h.below hb,λb x=>xll (lo b x) hb.size,λp hp=>?_⟩;rcases bL.1 hp with rfl|hp
 ·exact⟨ho,λx=>absurd (lo b x) (by omega),λe=>absurd h.lt (by omega),λe=>absurd (h.l.1.lt b e).2 (by omega),λe=>absurd (h.wy.lt b e).2 (by omega),xlt h.bs.size lV⟩
 ·obtain⟨a1,a2,a3,a4,a5,a6⟩:=hx p hp;exact⟨by rw[hb.block p.1 (yx a1).1];exact a1,a2,a3,a4,a5,a6⟩
theorem zh.cell0 (h:zh cl W s k fx w):w.cell? ⟨W,0,none⟩=some (.pointer (some ⟨cl,0,none⟩)):=by
 obtain⟨F,A,lv,wv,rfl,h,_⟩:=h;exact(h.cells 0 (.pointer (some ⟨A.cl,0,none⟩)) rfl).1
theorem zh.at (h:zh cl W s k fx w) {o:Obj} (hp:(b,o)∈fx):w.heap[b]?=some o:=by
 obtain⟨F,A,lv,wv,_,_,_,hx⟩:=h;exact(hx _ hp).at'
theorem zh.call {f:bD} {args:Array ae} {v:ae} (h:zh cl W s k fx w) (hc:∀(F:Nat->Prop) (A:PA),A.cl=cl->jo w F A s->aK prog f args w (j4 w F A v s')):aK prog f args w λe w'=>e=.returned v/\zh cl W s' k fx w':=by
 obtain⟨F,A,lv,wv,e,h,lo,hx⟩:=h;refine(hc F A e h.p).mono λen w' hp=>⟨hp.1,?_⟩
 obtain⟨_,A',h1,h2,h3⟩:=hp;refine⟨_,A',lv,wv,h1.trans e,h.turn h2.lts h1 h3 (λb hb x=>x.1.elim id λx=>absurd hb (Nat.not_lt.2 x)),λb x=>x.2,λp hp=>?_⟩;obtain⟨a1,a2,a3,a4,a5,a6⟩:=hx p hp;have dY:=(yx a1).1;exact⟨by rw[h3.keep p.1 dY a2];exact a1,λx=>x.1.elim a2 λx=>absurd dY (Nat.not_lt.2 x),a3,a4,a5,a6⟩
theorem zh.look (h:zh cl W s k fx w):aK prog 35 #[.pointer (some ⟨cl,0,none⟩)] w λe w'=>e=.returned (.agg (lH s 4))/\zh cl W s k fx w'/\bm w.heap.size w w':=by
 have h0:=h;obtain⟨F,A,lv,wv,rfl,h,_,hx⟩:=h;exact(LU h.p).mono λe w' hp=>⟨hp.1,h0.below hp.2,hp.2⟩
theorem zh.set {cur:Array ae} {z:Nat×Nat} (v:ae) (h:zh cl W s k ((b,.cells cur ty z)::fx) w) (eB:∀p∈fx,p.1≠b):zh cl W s k ((b,.cells (cur.setIfInBounds q v) ty z)::fx) (w.setCell ⟨b,q,none⟩ v):=by
 obtain⟨F,A,lv,wv,e,h,lo,hx⟩:=h;obtain⟨a1,a2,a3,a4,a5,a6⟩:=hx _ (.head _);have kb:∀c,c≠b->(w.setCell ⟨b,q,none⟩ v).heap[c]?=w.heap[c]?:=λc eB=>xho _ _ _ _ eB;have hb:But (· =b) w (w.setCell ⟨b,q,none⟩ v):=But.setCell (B:=(· =b)) (But.refl _ _) rfl _ _;refine⟨F,A,lv,wv,e,⟨h.p.frame λc hF=>kb c λe=>a2 (e▸hF),by rw[kb W (Ne.symm a3)];exact h.c,h.l.block λc hc=>kb c λe=>a4 (by rw[hc,e]),jd h.wy λc hc=>kb c λe=>a5 (by rw[hc,e]),h.fW,h.fl,h.fw,h.bs.trans (hb.mono λc e=>by rw[e];exact a6),h.lF,h.lW,h.lw⟩,λc x=>by simpa using lo c x,λp hp=>?_⟩;rcases bL.1 hp with rfl|hp
 ·exact⟨by simp[World.setCell,Array.getElem?_modify,a1],a2,a3,a4,a5,a6⟩
 ·obtain⟨c1,c2,c3,c4,c5,c6⟩:=hx p (.tail _ hp);exact⟨by rw[kb p.1 (eB p hp)];exact c1,c2,c3,c4,c5,c6⟩
theorem KAt.appW' {w1 w3:ag} {cap:Nat} {p:Pst} (h:KAt w F A W lv wv s k) (gK:bm w.heap.size w w1) (hblk:∀b,b<w1.heap.size->some b≠wv.ownBlock->w3.heap[b]?=w1.heap[b]?) (eU:w1.heap.size<=w3.heap.size) (Oh:w3.os=w1.os) (G5:w3.output=w1.output) (hr:w3.ownsRow 0 96 3 (.slice (some ⟨g,0,none⟩) (k.way.length+1) cap) (k.way.length+1) (xk k.way++[.int .i64 p.host,.bool p.rep,sv p.s])) (jG:wv.ownBlock=some g\/g=w1.heap.size):
  w3.cell? ⟨W,6,none⟩=some wv/\w3.frozen? ⟨W,6,none⟩=false/\y9 (w3.setCell ⟨W,6,none⟩ (.slice (some ⟨g,0,none⟩) (k.way.length+1) cap)) W s {k with way:=k.way++[p]}:=by
 have h:=h.lts;have keep:∀b,b<w.heap.size->wv.ownBlock≠some b->w3.heap[b]?=w.heap[b]?:=λb hb hn=>(hblk b (xll hb gK.size) λe=>hn e.symm).trans (gK.block b hb);have wW:=h.ne;have zV:w3.heap[W]?=_:=(keep W h.lt wW.2).trans h.c;have glo:k.w0.heap.size<=g:=jG.elim (λe=>h.lw g e) λe=>by rw[e];exact xlt h.bs.size gK.size
 have lvw:∀b,lv.ownBlock=some b->wv.ownBlock≠some b:=λb hb e=>by
  obtain⟨c,hc⟩:=wS h.l.1 hb;obtain⟨c',nN⟩:=wS h.wy e;exact absurd (zb (hc.symm.trans nN)) (by decide)
 have gW:g≠W:=λe=>by
  rcases jG with e2|e2
  ·exact wW.2 (by rw[e2,e])
  ·have:=h.lt;have:=gK.size;omega
 have kb:∀b,b≠W->(w3.setCell ⟨W,6,none⟩ (.slice (some ⟨g,0,none⟩) (k.way.length+1) cap)).heap[b]?=w3.heap[b]?:=λb eB=>xho _ _ _ _ eB;have b3:But (λb=>k.w0.heap.size<=b) w w3:=⟨xlt gK.size eU,λb hb hn=>keep b hb λe=>hn (h.lw b e),Oh.trans gK.os,G5.trans gK.output⟩
 refine⟨by simp[aD,zV,yN],by simp[aG,zV],_,A,lv,.slice (some ⟨g,0,none⟩) (k.way.length+1) cap,⟨h.p.frame λb hF=>(kb b λe=>h.fW (e▸hF)).trans (keep b hF.2 λe=>h.fw b e hF),(xhs w3 W 6 _ _ _ zV).trans rfl,h.l.block λb hb=>(kb b λe=>wW.1 (by rw[hb,e])).trans (keep b (h.l.1.lt b hb).2 (lvw b hb)),?_,h.fW,h.fl,λb hb hF=>?_,(h.bs.trans b3).trans (But.setCell (But.refl _ _) h.lW 6 _),h.lF,h.lW,λb hb=>?_⟩⟩
 ·show World.ownsRow _ 0 _ 3 _ (k.way++[p]).length (xk (k.way++[p]));rw[bd,show xk (k.way++[p])=xk k.way++[.int .i64 p.host,.bool p.rep,sv p.s] by simp[xk]];exact jd hr λb hb=>kb b λe=>gW ((xoi hb).trans e)
 ·obtain rfl:=xoi hb;rcases jG with e|e
  ·exact h.fw _ e hF
  ·have:=hF.2;have:=gK.size;have:g<w.heap.size:=hF.2;omega
 ·obtain rfl:=xoi hb;exact glo
theorem KAt.appW {w1 w3:ag} {cap:Nat} {p:Pst} (h:KAt w F A W lv wv s k) (gK:bm w.heap.size w w1) (hg:w1.grownBy w3 wv.ownBlock) (hr:w3.ownsRow 0 96 3 (.slice (some ⟨g,0,none⟩) (k.way.length+1) cap) (k.way.length+1) (xk k.way++[.int .i64 p.host,.bool p.rep,sv p.s])) (jG:wv.ownBlock=some g\/g=w1.heap.size):
  w3.cell? ⟨W,6,none⟩=some wv/\w3.frozen? ⟨W,6,none⟩=false/\y9 (w3.setCell ⟨W,6,none⟩ (.slice (some ⟨g,0,none⟩) (k.way.length+1) cap)) W s {k with way:=k.way++[p]}:=
 h.appW' gK hg.block hg.size hg.os hg.output hr jG
end
theorem q58 (k:Nat) (a:Int) (W:ag):(aO (k+1) 3 (.int .i64 a) (.int .i64 a)).run prog W=.ok true W:=by
 simp[aO,go_sem]
theorem q06 (k:Nat) (a:Bool) (W:ag):(aO (k+1) 4 (.bool a) (.bool a)).run prog W=.ok true W:=by
 simp[aO,go_sem]
theorem q59 (k:Nat) (a b c d:Int) (W:ag):(aO (k+2) 48 (.agg #[.int .i64 a,.int .i64 b,.int .i64 c,.int .i64 d]) (.agg #[.int .i64 a,.int .i64 b,.int .i64 c,.int .i64 d])).run prog W=.ok true W:=by
 have hc:prog.cellsOf 3=1:=by kernel_rfl
 obtain⟨i,hi⟩:∃i,prog.info? 3=some i:=by
  have h:(prog.info? 3).isSome=true:=by kernel_rfl
  exact aL.1 h
 have h1:=λa W=>q58 k a W;rw[run_equalIn_array (P:=prog) W (k+1) _ _ underlying48 hi,hc];simp[Op.eqItems,part,go_sem,bg,List.range.loop,isAgg,h1]
theorem q07 (k:Nat) (a b c d:Bool) (W:ag):(aO (k+2) 68 (.agg #[.bool a,.bool b,.bool c,.bool d]) (.agg #[.bool a,.bool b,.bool c,.bool d])).run prog W=.ok true W:=by
 have hc:prog.cellsOf 4=1:=by kernel_rfl
 obtain⟨i,hi⟩:∃i,prog.info? 4=some i:=by
  have h:(prog.info? 4).isSome=true:=by kernel_rfl
  exact aL.1 h
 have h1:=λa W=>q06 k a W;rw[run_equalIn_array (P:=prog) W (k+1) _ _ underlying68 hi,hc];simp[Op.eqItems,part,go_sem,bg,List.range.loop,isAgg,h1]
theorem q08 (a b c d:Int) (W:ag):(aO 9999 48 (.agg #[.int .i64 a,.int .i64 b,.int .i64 c,.int .i64 d]) (.agg #[.int .i64 a,.int .i64 b,.int .i64 c,.int .i64 d])).run prog W=.ok true W:=q59 9997 a b c d W
theorem Tx (a b c d:Bool) (W:ag):(aO 9999 68 (.agg #[.bool a,.bool b,.bool c,.bool d]) (.agg #[.bool a,.bool b,.bool c,.bool d])).run prog W=.ok true W:=q07 9997 a b c d W
section
variable {e:aP->ae} {o:Oper} {p q r:aP} {w:ag} {g:Nat}
theorem Ju (h:o.op=.fieldAddr 51 p 3) (hp:e p=.pointer (some ⟨g,0,none⟩)):(aq e o).run prog w=.ok (.value (.pointer (some ⟨g,6,none⟩))) w:=by
 have hu:=underlying51;unfold aq;simp[go_sem,h,hp,hu]
theorem EK (f:Nat) (hf:f<3) (h:o.op=.fieldAddr 96 p f) (hp:e p=.pointer (some ⟨g,0,none⟩)):(aq e o).run prog w=.ok (.value (.pointer (some ⟨g,f,none⟩))) w:=by
 have hu:=underlying96;unfold aq;match f,hf with
 |0,_|1,_|2,_=>simp[go_sem,h,hp,hu]
theorem LM {x y:Int} (h:o.op=.binOp .eql 41 p q 41) (hp:e p=.int .i64 x) (hq:e q=.int .i64 y):(aq e o).run prog w=.ok (.value (.bool (decide (x=y)))) w:=by
 have hu:=underlying41;unfold aq;by_cases hx:x=y<;>simp[go_sem,h,hp,hq,hu,hx]
theorem q4a (h:o.op=.binOp .eql 9 p q 9) (hp:e p=.string ⟨#[]⟩) (hq:e q=.string ⟨#[]⟩):(aq e o).run prog w=.ok (.value (.bool true)) w:=by
 have hu:=underlying9;unfold aq;simp[go_sem,h,hp,hq,hu]
theorem SL {v0 v1 v2 v3 v4 v5 v6 v7 v8 v9 v10 v11 v12:ae} {z:Nat×Nat} (h:o.op=.load 70 p) (hp:e p=.pointer (some ⟨g,0,none⟩)) (hc:w.heap[g]?=some (.cells #[v0,v1,v2,v3,v4,v5,v6,v7,v8,v9,v10,v11,v12] ty z)):(aq e o).run prog w=.ok (.value (.agg #[v0,v1,v2,v3,v4,v5,v6,v7,v8,v9,v10,v11,v12])) w:=by
 have hA:=Tryz.isAgg70;have hS:=Tryz.sizeOf70;unfold aq;simp[go_sem,h,hp,hA,hS,aD,hc]
theorem QV (h:o.op=.binOp .eql 70 p q 70) (s:St) (hp:e p=.agg (lH s 4)) (hq:e q=.agg (lH s 4)):(aq e o).run prog w=.ok (.value (.bool true)) w:=by
 have hu:=underlying70;unfold lH at hp hq;have p1:=q08 (lkO s 4 0) (lkO s 4 1) (lkO s 4 2) (lkO s 4 3);have p2:=Tx (lkM s 4 0) (lkM s 4 1) (lkM s 4 2) (lkM s 4 3);have p3:=Tx (lkS s 4 0) (lkS s 4 1) (lkS s 4 2) (lkS s 4 3);unfold aq;simp[go_sem,h,hp,hq,hu,p1,p2,p3]
end
noncomputable def zB:Code:=(Tryz.f48.body).getD .skip
noncomputable def zC:Code:=cS (cS zB)
noncomputable def zT:Code:=cT (cS (cF zC))
noncomputable def zT6:Code:=cS (cS (cS zT))
noncomputable def zD:Code:=cS zC
noncomputable def zE:Code:=cS zD
section
variable {cl W:Nat} {s:St} {k:KW} {fx:List (Nat×Obj)} {w:ag}
theorem zh.post (h:zh cl W s k fx w) {p:Pst} (hp:(pb,aW #[.int .i64 p.host,.bool p.rep,.string ub] 96 (0,0))∈fx):w.cell? ⟨pb,0,none⟩=some (.int .i64 p.host)/\w.cell? ⟨pb,1,none⟩=some (.bool p.rep)/\w.cell? ⟨pb,2,none⟩=some (.string ub):=by
 have h1:=h.at hp;exact⟨by simp[aD,h1],by simp[aD,h1],by simp[aD,h1]⟩
end
noncomputable def bR7:Array Oper:=cR (cF (cT (cS (cF zT6))))
noncomputable def vk (k:Nat):Oper:=bR7.getD k ⟨none,.alloc 0,0, "",#[],none⟩
theorem q0g:qE bR7 145 20=true:=by kernel_rfl
def bR7v (cl:Nat) (W:Nat) (pb:Nat) (lb:Nat) (p:Pst) (ub:ByteArray) (u:ByteArray) (bv:ae) (s:St):Nat->ae
 |0=>.pointer (some ⟨W,0,none⟩)
 |1=>.pointer (some ⟨W,0,none⟩)
 |2=>.pointer (some ⟨W,0,none⟩)
 |3=>.pointer (some ⟨cl,0,none⟩)
 |4=>.pointer (some ⟨pb,0,none⟩)
 |5=>.int .i64 p.host
 |6=>bv
 |7=>.string u
 |8=>.int .i64 0
 |9=>.bool true
 |10=>.bool true
 |11=>.pointer (some ⟨W,0,none⟩)
 |12=>.pointer (some ⟨W,0,none⟩)
 |13=>.pointer (some ⟨W,0,none⟩)
 |14=>.pointer (some ⟨cl,0,none⟩)
 |15=>.agg (lH s 4)
 |16=>.agg (lH s 4)
 |17=>.bool true
 |18=>.bool true
 |19=>.bool true
 |_=>aV
theorem jci {W:Nat} {p:Pst} {u:ByteArray} {bv:ae} {s:St} {k:KW} (hp:(pb,aW #[.int .i64 p.host,.bool p.rep,.string ub] 96 (0,0))∈fx) (hl:(lb,aW (lH s 4) 70 (0,0))∈fx) (vZ:∀V,zh cl W s k fx V->(convert 139 9 bv).run prog V=.ok (.string u) V) (hR:∀V,zh cl W s k fx V->aK prog 65 #[.pointer (some ⟨cl,0,none⟩),.int .i64 p.host,.string u] V λe w'=>e=.returned (.int .i64 0)/\zh cl W s k fx w') (h0:x0 0=.pointer (some ⟨W,0,none⟩)) (h9:x0 9=.pointer (some ⟨pb,0,none⟩)) (iN:x0 10=.pointer (some ⟨lb,0,none⟩)) (nP:x0 11=bv) (o5:zh cl W s k fx w):
  (bj 7 bR7 true).wp prog (JnL 145 λy w'=>(y 0=.pointer (some ⟨W,0,none⟩)/\y 9=.pointer (some ⟨pb,0,none⟩)/\y 10=.pointer (some ⟨lb,0,none⟩)/\y 11=bv/\y 8=.bool true)/\zh cl W s k fx w') ⟨lay 145 x0,[]⟩ w:=by
 refine yw (n:=145) (tn:=20) (x0:=x0) (val:=bR7v cl W pb lb p ub u bv s) (J:=λ_ w=>zh cl W s k fx w) (by kernel_rfl) q0g ⟨_,rfl,λ_=>rfl⟩ o5.drew ?_ ?_ ?_
 ·intro j o g t ho hg;left;match j,ho with
  |0,ho=>obtain rfl:=qj (a:=vk 0) rfl ho;first|(cases hg;done)|(cases hg;rfl)
  |1,ho=>obtain rfl:=qj (a:=vk 1) rfl ho;first|(cases hg;done)|(cases hg;rfl)
  |2,ho=>obtain rfl:=qj (a:=vk 2) rfl ho;first|(cases hg;done)|(cases hg;rfl)
  |3,ho=>obtain rfl:=qj (a:=vk 3) rfl ho;first|(cases hg;done)|(cases hg;rfl)
  |4,ho=>obtain rfl:=qj (a:=vk 4) rfl ho;first|(cases hg;done)|(cases hg;rfl)
  |5,ho=>obtain rfl:=qj (a:=vk 5) rfl ho;first|(cases hg;done)|(cases hg;rfl)
  |6,ho=>obtain rfl:=qj (a:=vk 6) rfl ho;first|(cases hg;done)|(cases hg;rfl)
  |7,ho=>obtain rfl:=qj (a:=vk 7) rfl ho;first|(cases hg;done)|(cases hg;rfl)
  |8,ho=>obtain rfl:=qj (a:=vk 8) rfl ho;first|(cases hg;done)|(cases hg;rfl)
  |9,ho=>obtain rfl:=qj (a:=vk 9) rfl ho;first|(cases hg;done)|(cases hg;rfl)
  |10,ho=>obtain rfl:=qj (a:=vk 10) rfl ho;first|(cases hg;done)|(cases hg;rfl)
  |11,ho=>obtain rfl:=qj (a:=vk 11) rfl ho;first|(cases hg;done)|(cases hg;rfl)
  |12,ho=>obtain rfl:=qj (a:=vk 12) rfl ho;first|(cases hg;done)|(cases hg;rfl)
  |13,ho=>obtain rfl:=qj (a:=vk 13) rfl ho;first|(cases hg;done)|(cases hg;rfl)
  |14,ho=>obtain rfl:=qj (a:=vk 14) rfl ho;first|(cases hg;done)|(cases hg;rfl)
  |15,ho=>obtain rfl:=qj (a:=vk 15) rfl ho;first|(cases hg;done)|(cases hg;rfl)
  |16,ho=>obtain rfl:=qj (a:=vk 16) rfl ho;first|(cases hg;done)|(cases hg;rfl)
  |17,ho=>obtain rfl:=qj (a:=vk 17) rfl ho;first|(cases hg;done)|(cases hg;rfl)
  |18,ho=>obtain rfl:=qj (a:=vk 18) rfl ho;first|(cases hg;done)|(cases hg;rfl)
  |19,ho=>obtain rfl:=qj (a:=vk 19) rfl ho;first|(cases hg;done)|(cases hg;rfl)
  |k+20,ho=>rw[ac (by show 20<=_;omega)]at ho;cases ho
 ·intro j o d x w1 ho hd hx qo _ hJ;have b0:=(hx 0 (qz (by kernel_rfl))).trans h0;have b9:=(hx 9 (qz (by kernel_rfl))).trans h9;have xN:=(hx 10 (qz (by kernel_rfl))).trans iN;have u6:=(hx 11 (qz (by kernel_rfl))).trans nP;match j,ho with
  |0,ho=>
   obtain rfl:=qj (a:=vk 0) rfl ho;obtain rfl:=qj (a:=52) rfl hd;exact qf (o:=vk 0) (run_move rfl (jc b0)) ⟨qc rfl,hJ⟩
  |1,ho=>
   obtain rfl:=qj (a:=vk 1) rfl ho;obtain rfl:=qj (a:=53) rfl hd;have k0:x 52=.pointer (some ⟨W,0,none⟩):=qo 0 _ 52 rfl rfl (qd rfl);exact qf (o:=vk 1) (y7 rfl (jc k0)) ⟨qc rfl,hJ⟩
  |2,ho=>
   obtain rfl:=qj (a:=vk 2) rfl ho;obtain rfl:=qj (a:=54) rfl hd;have k1:x 53=.pointer (some ⟨W,0,none⟩):=qo 1 _ 53 rfl rfl (qd rfl);exact qf (o:=vk 2) (Bb rfl (jc k1)) ⟨qc rfl,hJ⟩
  |3,ho=>
   obtain rfl:=qj (a:=vk 3) rfl ho;obtain rfl:=qj (a:=55) rfl hd;have k2:x 54=.pointer (some ⟨W,0,none⟩):=qo 2 _ 54 rfl rfl (qd rfl);exact qf (o:=vk 3) (jk (ty:=40) rfl (jc k2) (by simp[isAgg,underlying40]) hJ.cell0) ⟨qc rfl,hJ⟩
  |4,ho=>
   obtain rfl:=qj (a:=vk 4) rfl ho;obtain rfl:=qj (a:=56) rfl hd;exact qf (o:=vk 4) (EK 0 (by decide) rfl (jc b9)) ⟨qc rfl,hJ⟩
  |5,ho=>
   obtain rfl:=qj (a:=vk 5) rfl ho;obtain rfl:=qj (a:=57) rfl hd;have k4:x 56=.pointer (some ⟨pb,0,none⟩):=qo 4 _ 56 rfl rfl (qd rfl);exact qf (o:=vk 5) (jk (ty:=3) rfl (jc k4) (by simp[isAgg,underlying3]) (hJ.post hp).1) ⟨qc rfl,hJ⟩
  |6,ho=>
   obtain rfl:=qj (a:=vk 6) rfl ho;obtain rfl:=qj (a:=58) rfl hd;exact qf (o:=vk 6) (run_move rfl (jc u6)) ⟨qc rfl,hJ⟩
  |7,ho=>
   obtain rfl:=qj (a:=vk 7) rfl ho;obtain rfl:=qj (a:=59) rfl hd;have k6:x 58=bv:=qo 6 _ 58 rfl rfl (qd rfl);exact qf (o:=vk 7) (EC rfl (jc k6) (vZ w1 hJ)) ⟨qc rfl,hJ⟩
  |8,ho=>
   obtain rfl:=qj (a:=vk 8) rfl ho;obtain rfl:=qj (a:=60) rfl hd;have k3:x 55=.pointer (some ⟨cl,0,none⟩):=qo 3 _ 55 rfl rfl (qd rfl);have k5:x 57=.int .i64 p.host:=qo 5 _ 57 rfl rfl (qd rfl);have k7:x 59=.string u:=qo 7 _ 59 rfl rfl (qd rfl);have e0:(aN (lay 145 x) []).eval (.tmp 55)=_:=tmp (by decide) k3;have e1:(aN (lay 145 x) []).eval (.tmp 57)=_:=tmp (by decide) k5;have e2:(aN (lay 145 x) []).eval (.tmp 59)=_:=tmp (by decide) k7;exact uL (o:=vk 8) rfl (by rw[ax];simp only[aH,aJ,e0,e1,e2]<;>rfl) func65 (by decide) rfl ((hR w1 hJ).mono λe w' he=>⟨_,he.1,qc rfl,he.2⟩)
  |9,ho=>
   obtain rfl:=qj (a:=vk 9) rfl ho;obtain rfl:=qj (a:=61) rfl hd;have k8:x 60=.int .i64 0:=qo 8 _ 60 rfl rfl (qd rfl);exact qf (o:=vk 9) (LM (x:=0) (y:=0) rfl (jc k8) rfl) ⟨qc rfl,hJ⟩
  |10,ho=>
   obtain rfl:=qj (a:=vk 10) rfl ho;obtain rfl:=qj (a:=62) rfl hd;have k9:x 61=.bool true:=qo 9 _ 61 rfl rfl (qd rfl);exact qf (o:=vk 10) (run_move rfl (jc k9)) ⟨qc rfl,hJ⟩
  |11,ho=>
   obtain rfl:=qj (a:=vk 11) rfl ho;obtain rfl:=qj (a:=63) rfl hd;exact qf (o:=vk 11) (run_move rfl (jc b0)) ⟨qc rfl,hJ⟩
  |12,ho=>
   obtain rfl:=qj (a:=vk 12) rfl ho;obtain rfl:=qj (a:=64) rfl hd;have nZ:x 63=.pointer (some ⟨W,0,none⟩):=qo 11 _ 63 rfl rfl (qd rfl);exact qf (o:=vk 12) (y7 rfl (jc nZ)) ⟨qc rfl,hJ⟩
  |13,ho=>
   obtain rfl:=qj (a:=vk 13) rfl ho;obtain rfl:=qj (a:=65) rfl hd;have uO:x 64=.pointer (some ⟨W,0,none⟩):=qo 12 _ 64 rfl rfl (qd rfl);exact qf (o:=vk 13) (Bb rfl (jc uO)) ⟨qc rfl,hJ⟩
  |14,ho=>
   obtain rfl:=qj (a:=vk 14) rfl ho;obtain rfl:=qj (a:=66) rfl hd;have vR:x 65=.pointer (some ⟨W,0,none⟩):=qo 13 _ 65 rfl rfl (qd rfl);exact qf (o:=vk 14) (jk (ty:=40) rfl (jc vR) (by simp[isAgg,underlying40]) hJ.cell0) ⟨qc rfl,hJ⟩
  |15,ho=>
   obtain rfl:=qj (a:=vk 15) rfl ho;obtain rfl:=qj (a:=67) rfl hd;have uN:x 66=.pointer (some ⟨cl,0,none⟩):=qo 14 _ 66 rfl rfl (qd rfl);have e0:(aN (lay 145 x) []).eval (.tmp 66)=_:=tmp (by decide) uN;exact uL (o:=vk 15) rfl (by rw[ax];simp only[aH,aJ,e0]) func35 (by decide) rfl (hJ.look.mono λe w' he=>⟨_,he.1,qc rfl,he.2.1⟩)
  |16,ho=>
   obtain rfl:=qj (a:=vk 16) rfl ho;obtain rfl:=qj (a:=68) rfl hd;exact qf (o:=vk 16) (SL rfl (jc xN) (hJ.at hl)) ⟨qc rfl,hJ⟩
  |17,ho=>
   obtain rfl:=qj (a:=vk 17) rfl ho;obtain rfl:=qj (a:=69) rfl hd;have zA:x 67=.agg (lH s 4):=qo 15 _ 67 rfl rfl (qd rfl);have C9:x 68=.agg (lH s 4):=qo 16 _ 68 rfl rfl (qd rfl);exact qf (o:=vk 17) (QV rfl s (jc zA) (jc C9)) ⟨qc rfl,hJ⟩
  |18,ho=>
   obtain rfl:=qj (a:=vk 18) rfl ho;obtain rfl:=qj (a:=70) rfl hd;have jE:x 62=.bool true:=qo 10 _ 62 rfl rfl (qd rfl);have GR:x 69=.bool true:=qo 17 _ 69 rfl rfl (qd rfl);exact qf (o:=vk 18) (F6 (b:=true) rfl (jc jE) (jc GR) rfl) ⟨qc rfl,hJ⟩
  |19,ho=>
   obtain rfl:=qj (a:=vk 19) rfl ho;obtain rfl:=qj (a:=8) rfl hd;have ND:x 70=.bool true:=qo 18 _ 70 rfl rfl (qd rfl);exact qf (o:=vk 19) (oQ rfl (jc ND)) ⟨qc rfl,hJ⟩
  |k+20,ho=>rw[ac (by show 20<=_;omega)]at ho;cases ho
 ·intro y w1 hy hv hJ;exact⟨y,rfl,⟨(hy 0 (qz (by kernel_rfl))).trans h0,(hy 9 (qz (by kernel_rfl))).trans h9,(hy 10 (qz (by kernel_rfl))).trans iN,(hy 11 (qz (by kernel_rfl))).trans nP,hv 19 _ 8 rfl rfl⟩,hJ⟩
noncomputable def bR8:Array Oper:=cR (cF (cS zT6))
noncomputable def iB (k:Nat):Oper:=bR8.getD k ⟨none,.alloc 0,0, "",#[],none⟩
theorem q0h:qE bR8 145 14=true:=by kernel_rfl
def bR8v (cl:Nat) (W:Nat) (pb:Nat) (lb:Nat) (p:Pst) (ub:ByteArray) (u:ByteArray) (bv:ae) (s:St):Nat->ae
 |0=>.pointer (some ⟨W,0,none⟩)
 |1=>.pointer (some ⟨W,0,none⟩)
 |2=>.pointer (some ⟨W,0,none⟩)
 |3=>.pointer (some ⟨cl,0,none⟩)
 |4=>.pointer (some ⟨pb,0,none⟩)
 |5=>.int .i64 p.host
 |6=>bv
 |7=>.string u
 |8=>.tuple #[.string ⟨#[]⟩,.int .i64 0]
 |9=>.tuple #[.string ⟨#[]⟩,.int .i64 0]
 |10=>.string ⟨#[]⟩
 |11=>.int .i64 0
 |12=>.string ⟨#[]⟩
 |13=>.int .i64 0
 |_=>aV
theorem jcj {W:Nat} {p:Pst} {u:ByteArray} {bv:ae} {s:St} {k:KW} (hp:(pb,aW #[.int .i64 p.host,.bool p.rep,.string ub] 96 (0,0))∈fx) (hl:(lb,aW (lH s 4) 70 (0,0))∈fx) (vZ:∀V,zh cl W s k fx V->(convert 139 9 bv).run prog V=.ok (.string u) V) (hR:∀V,zh cl W s k fx V->aK prog 63 #[.pointer (some ⟨cl,0,none⟩),.int .i64 p.host,.string u] V λe w'=>e=.returned (.tuple #[.string ⟨#[]⟩,.int .i64 0])/\zh cl W s k fx w') (h0:x0 0=.pointer (some ⟨W,0,none⟩)) (h9:x0 9=.pointer (some ⟨pb,0,none⟩)) (iN:x0 10=.pointer (some ⟨lb,0,none⟩)) (nP:x0 11=bv) (o5:zh cl W s k fx w):
  (bj 8 bR8 true).wp prog (JnL 145 λy w'=>(y 0=.pointer (some ⟨W,0,none⟩)/\y 9=.pointer (some ⟨pb,0,none⟩)/\y 10=.pointer (some ⟨lb,0,none⟩)/\y 11=bv/\y 12=.string ⟨#[]⟩/\y 13=.int .i64 0)/\zh cl W s k fx w') ⟨lay 145 x0,[]⟩ w:=by
 refine yw (n:=145) (tn:=14) (x0:=x0) (val:=bR8v cl W pb lb p ub u bv s) (J:=λ_ w=>zh cl W s k fx w) (by kernel_rfl) q0h ⟨_,rfl,λ_=>rfl⟩ o5.drew ?_ ?_ ?_
 ·intro j o g t ho hg;left;match j,ho with
  |0,ho=>obtain rfl:=qj (a:=iB 0) rfl ho;first|(cases hg;done)|(cases hg;rfl)
  |1,ho=>obtain rfl:=qj (a:=iB 1) rfl ho;first|(cases hg;done)|(cases hg;rfl)
  |2,ho=>obtain rfl:=qj (a:=iB 2) rfl ho;first|(cases hg;done)|(cases hg;rfl)
  |3,ho=>obtain rfl:=qj (a:=iB 3) rfl ho;first|(cases hg;done)|(cases hg;rfl)
  |4,ho=>obtain rfl:=qj (a:=iB 4) rfl ho;first|(cases hg;done)|(cases hg;rfl)
  |5,ho=>obtain rfl:=qj (a:=iB 5) rfl ho;first|(cases hg;done)|(cases hg;rfl)
  |6,ho=>obtain rfl:=qj (a:=iB 6) rfl ho;first|(cases hg;done)|(cases hg;rfl)
  |7,ho=>obtain rfl:=qj (a:=iB 7) rfl ho;first|(cases hg;done)|(cases hg;rfl)
  |8,ho=>obtain rfl:=qj (a:=iB 8) rfl ho;first|(cases hg;done)|(cases hg;rfl)
  |9,ho=>obtain rfl:=qj (a:=iB 9) rfl ho;first|(cases hg;done)|(cases hg;rfl)
  |10,ho=>obtain rfl:=qj (a:=iB 10) rfl ho;first|(cases hg;done)|(cases hg;rfl)
  |11,ho=>obtain rfl:=qj (a:=iB 11) rfl ho;first|(cases hg;done)|(cases hg;rfl)
  |12,ho=>obtain rfl:=qj (a:=iB 12) rfl ho;first|(cases hg;done)|(cases hg;rfl)
  |13,ho=>obtain rfl:=qj (a:=iB 13) rfl ho;first|(cases hg;done)|(cases hg;rfl)
  |k+14,ho=>rw[ac (by show 14<=_;omega)]at ho;cases ho
 ·intro j o d x w1 ho hd hx qo _ hJ;have b0:=(hx 0 (qz (by kernel_rfl))).trans h0;have b9:=(hx 9 (qz (by kernel_rfl))).trans h9;have xN:=(hx 10 (qz (by kernel_rfl))).trans iN;have u6:=(hx 11 (qz (by kernel_rfl))).trans nP;match j,ho with
  |0,ho=>
   obtain rfl:=qj (a:=iB 0) rfl ho;obtain rfl:=qj (a:=72) rfl hd;exact qf (o:=iB 0) (run_move rfl (jc b0)) ⟨qc rfl,hJ⟩
  |1,ho=>
   obtain rfl:=qj (a:=iB 1) rfl ho;obtain rfl:=qj (a:=73) rfl hd;have k0:x 72=.pointer (some ⟨W,0,none⟩):=qo 0 _ 72 rfl rfl (qd rfl);exact qf (o:=iB 1) (y7 rfl (jc k0)) ⟨qc rfl,hJ⟩
  |2,ho=>
   obtain rfl:=qj (a:=iB 2) rfl ho;obtain rfl:=qj (a:=74) rfl hd;have k1:x 73=.pointer (some ⟨W,0,none⟩):=qo 1 _ 73 rfl rfl (qd rfl);exact qf (o:=iB 2) (Bb rfl (jc k1)) ⟨qc rfl,hJ⟩
  |3,ho=>
   obtain rfl:=qj (a:=iB 3) rfl ho;obtain rfl:=qj (a:=75) rfl hd;have k2:x 74=.pointer (some ⟨W,0,none⟩):=qo 2 _ 74 rfl rfl (qd rfl);exact qf (o:=iB 3) (jk (ty:=40) rfl (jc k2) (by simp[isAgg,underlying40]) hJ.cell0) ⟨qc rfl,hJ⟩
  |4,ho=>
   obtain rfl:=qj (a:=iB 4) rfl ho;obtain rfl:=qj (a:=76) rfl hd;exact qf (o:=iB 4) (EK 0 (by decide) rfl (jc b9)) ⟨qc rfl,hJ⟩
  |5,ho=>
   obtain rfl:=qj (a:=iB 5) rfl ho;obtain rfl:=qj (a:=77) rfl hd;have k4:x 76=.pointer (some ⟨pb,0,none⟩):=qo 4 _ 76 rfl rfl (qd rfl);exact qf (o:=iB 5) (jk (ty:=3) rfl (jc k4) (by simp[isAgg,underlying3]) (hJ.post hp).1) ⟨qc rfl,hJ⟩
  |6,ho=>
   obtain rfl:=qj (a:=iB 6) rfl ho;obtain rfl:=qj (a:=78) rfl hd;exact qf (o:=iB 6) (run_move rfl (jc u6)) ⟨qc rfl,hJ⟩
  |7,ho=>
   obtain rfl:=qj (a:=iB 7) rfl ho;obtain rfl:=qj (a:=79) rfl hd;have k6:x 78=bv:=qo 6 _ 78 rfl rfl (qd rfl);exact qf (o:=iB 7) (EC rfl (jc k6) (vZ w1 hJ)) ⟨qc rfl,hJ⟩
  |8,ho=>
   obtain rfl:=qj (a:=iB 8) rfl ho;obtain rfl:=qj (a:=80) rfl hd;have k3:x 75=.pointer (some ⟨cl,0,none⟩):=qo 3 _ 75 rfl rfl (qd rfl);have k5:x 77=.int .i64 p.host:=qo 5 _ 77 rfl rfl (qd rfl);have k7:x 79=.string u:=qo 7 _ 79 rfl rfl (qd rfl);have e0:(aN (lay 145 x) []).eval (.tmp 75)=_:=tmp (by decide) k3;have e1:(aN (lay 145 x) []).eval (.tmp 77)=_:=tmp (by decide) k5;have e2:(aN (lay 145 x) []).eval (.tmp 79)=_:=tmp (by decide) k7;exact uL (o:=iB 8) rfl (by rw[ax];simp only[aH,aJ,e0,e1,e2]<;>rfl) func63 (by decide) rfl ((hR w1 hJ).mono λe w' he=>⟨_,he.1,qc rfl,he.2⟩)
  |9,ho=>
   obtain rfl:=qj (a:=iB 9) rfl ho;obtain rfl:=qj (a:=71) rfl hd;have k8:x 80=.tuple #[.string ⟨#[]⟩,.int .i64 0]:=qo 8 _ 80 rfl rfl (qd rfl);exact qf (o:=iB 9) (run_move rfl (jc k8)) ⟨qc rfl,hJ⟩
  |10,ho=>
   obtain rfl:=qj (a:=iB 10) rfl ho;obtain rfl:=qj (a:=81) rfl hd;have k9:x 71=.tuple #[.string ⟨#[]⟩,.int .i64 0]:=qo 9 _ 71 rfl rfl (qd rfl);exact qf (o:=iB 10) (Es (i:=0) rfl (jc k9) rfl) ⟨qc rfl,hJ⟩
  |11,ho=>
   obtain rfl:=qj (a:=iB 11) rfl ho;obtain rfl:=qj (a:=82) rfl hd;have k9:x 71=.tuple #[.string ⟨#[]⟩,.int .i64 0]:=qo 9 _ 71 rfl rfl (qd rfl);exact qf (o:=iB 11) (Es (i:=1) rfl (jc k9) rfl) ⟨qc rfl,hJ⟩
  |12,ho=>
   obtain rfl:=qj (a:=iB 12) rfl ho;obtain rfl:=qj (a:=12) rfl hd;have jE:x 81=.string ⟨#[]⟩:=qo 10 _ 81 rfl rfl (qd rfl);exact qf (o:=iB 12) (oQ rfl (jc jE)) ⟨qc rfl,hJ⟩
  |13,ho=>
   obtain rfl:=qj (a:=iB 13) rfl ho;obtain rfl:=qj (a:=13) rfl hd;have nZ:x 82=.int .i64 0:=qo 11 _ 82 rfl rfl (qd rfl);exact qf (o:=iB 13) (oQ rfl (jc nZ)) ⟨qc rfl,hJ⟩
  |k+14,ho=>rw[ac (by show 14<=_;omega)]at ho;cases ho
 ·intro y w1 hy hv hJ;exact⟨y,rfl,⟨(hy 0 (qz (by kernel_rfl))).trans h0,(hy 9 (qz (by kernel_rfl))).trans h9,(hy 10 (qz (by kernel_rfl))).trans iN,(hy 11 (qz (by kernel_rfl))).trans nP,hv 12 _ 12 rfl rfl,hv 13 _ 13 rfl rfl⟩,hJ⟩
noncomputable def bR9:Array Oper:=cR (cF (cS (cS zT6)))
noncomputable def gP (k:Nat):Oper:=bR9.getD k ⟨none,.alloc 0,0, "",#[],none⟩
theorem q0i:qE bR9 145 16=true:=by kernel_rfl
def bR9v (cl:Nat) (W:Nat) (lb:Nat) (s:St):Nat->ae
 |0=>.string ⟨#[]⟩
 |1=>.bool true
 |2=>.bool true
 |3=>.int .i64 0
 |4=>.bool true
 |5=>.bool true
 |6=>.bool true
 |7=>.pointer (some ⟨W,0,none⟩)
 |8=>.pointer (some ⟨W,0,none⟩)
 |9=>.pointer (some ⟨W,0,none⟩)
 |10=>.pointer (some ⟨cl,0,none⟩)
 |11=>.agg (lH s 4)
 |12=>.agg (lH s 4)
 |13=>.bool true
 |14=>.bool true
 |15=>.bool true
 |_=>aV
theorem jck {W:Nat} {s:St} {k:KW} (hl:(lb,aW (lH s 4) 70 (0,0))∈fx) (h0:x0 0=.pointer (some ⟨W,0,none⟩)) (iN:x0 10=.pointer (some ⟨lb,0,none⟩)) (zX:x0 12=.string ⟨#[]⟩) (KM:x0 13=.int .i64 0) (o5:zh cl W s k fx w):
  (bj 9 bR9 true).wp prog (JnL 145 λy w'=>(y 0=.pointer (some ⟨W,0,none⟩)/\y 10=.pointer (some ⟨lb,0,none⟩)/\y 12=.string ⟨#[]⟩/\y 13=.int .i64 0/\y 8=.bool true)/\zh cl W s k fx w') ⟨lay 145 x0,[]⟩ w:=by
 refine yw (n:=145) (tn:=16) (x0:=x0) (val:=bR9v cl W lb s) (J:=λ_ w=>zh cl W s k fx w) (by kernel_rfl) q0i ⟨_,rfl,λ_=>rfl⟩ o5.drew ?_ ?_ ?_
 ·intro j o g t ho hg;left;match j,ho with
  |0,ho=>obtain rfl:=qj (a:=gP 0) rfl ho;first|(cases hg;done)|(cases hg;rfl)
  |1,ho=>obtain rfl:=qj (a:=gP 1) rfl ho;first|(cases hg;done)|(cases hg;rfl)
  |2,ho=>obtain rfl:=qj (a:=gP 2) rfl ho;first|(cases hg;done)|(cases hg;rfl)
  |3,ho=>obtain rfl:=qj (a:=gP 3) rfl ho;first|(cases hg;done)|(cases hg;rfl)
  |4,ho=>obtain rfl:=qj (a:=gP 4) rfl ho;first|(cases hg;done)|(cases hg;rfl)
  |5,ho=>obtain rfl:=qj (a:=gP 5) rfl ho;first|(cases hg;done)|(cases hg;rfl)
  |6,ho=>obtain rfl:=qj (a:=gP 6) rfl ho;first|(cases hg;done)|(cases hg;rfl)
  |7,ho=>obtain rfl:=qj (a:=gP 7) rfl ho;first|(cases hg;done)|(cases hg;rfl)
  |8,ho=>obtain rfl:=qj (a:=gP 8) rfl ho;first|(cases hg;done)|(cases hg;rfl)
  |9,ho=>obtain rfl:=qj (a:=gP 9) rfl ho;first|(cases hg;done)|(cases hg;rfl)
  |10,ho=>obtain rfl:=qj (a:=gP 10) rfl ho;first|(cases hg;done)|(cases hg;rfl)
  |11,ho=>obtain rfl:=qj (a:=gP 11) rfl ho;first|(cases hg;done)|(cases hg;rfl)
  |12,ho=>obtain rfl:=qj (a:=gP 12) rfl ho;first|(cases hg;done)|(cases hg;rfl)
  |13,ho=>obtain rfl:=qj (a:=gP 13) rfl ho;first|(cases hg;done)|(cases hg;rfl)
  |14,ho=>obtain rfl:=qj (a:=gP 14) rfl ho;first|(cases hg;done)|(cases hg;rfl)
  |15,ho=>obtain rfl:=qj (a:=gP 15) rfl ho;first|(cases hg;done)|(cases hg;rfl)
  |k+16,ho=>rw[ac (by show 16<=_;omega)]at ho;cases ho
 ·intro j o d x w1 ho hd hx qo _ hJ;have b0:=(hx 0 (qz (by kernel_rfl))).trans h0;have xN:=(hx 10 (qz (by kernel_rfl))).trans iN;have Fj:=(hx 12 (qz (by kernel_rfl))).trans zX;have xM:=(hx 13 (qz (by kernel_rfl))).trans KM;match j,ho with
  |0,ho=>
   obtain rfl:=qj (a:=gP 0) rfl ho;obtain rfl:=qj (a:=83) rfl hd;exact qf (o:=gP 0) (run_move rfl (jc Fj)) ⟨qc rfl,hJ⟩
  |1,ho=>
   obtain rfl:=qj (a:=gP 1) rfl ho;obtain rfl:=qj (a:=84) rfl hd;have k0:x 83=.string ⟨#[]⟩:=qo 0 _ 83 rfl rfl (qd rfl);exact qf (o:=gP 1) (q4a rfl (jc k0) rfl) ⟨qc rfl,hJ⟩
  |2,ho=>
   obtain rfl:=qj (a:=gP 2) rfl ho;obtain rfl:=qj (a:=85) rfl hd;have k1:x 84=.bool true:=qo 1 _ 84 rfl rfl (qd rfl);exact qf (o:=gP 2) (run_move rfl (jc k1)) ⟨qc rfl,hJ⟩
  |3,ho=>
   obtain rfl:=qj (a:=gP 3) rfl ho;obtain rfl:=qj (a:=86) rfl hd;exact qf (o:=gP 3) (run_move rfl (jc xM)) ⟨qc rfl,hJ⟩
  |4,ho=>
   obtain rfl:=qj (a:=gP 4) rfl ho;obtain rfl:=qj (a:=87) rfl hd;have k3:x 86=.int .i64 0:=qo 3 _ 86 rfl rfl (qd rfl);exact qf (o:=gP 4) (LM (x:=0) (y:=0) rfl (jc k3) rfl) ⟨qc rfl,hJ⟩
  |5,ho=>
   obtain rfl:=qj (a:=gP 5) rfl ho;obtain rfl:=qj (a:=88) rfl hd;have k2:x 85=.bool true:=qo 2 _ 85 rfl rfl (qd rfl);have k4:x 87=.bool true:=qo 4 _ 87 rfl rfl (qd rfl);exact qf (o:=gP 5) (F6 (b:=true) rfl (jc k2) (jc k4) rfl) ⟨qc rfl,hJ⟩
  |6,ho=>
   obtain rfl:=qj (a:=gP 6) rfl ho;obtain rfl:=qj (a:=89) rfl hd;have k5:x 88=.bool true:=qo 5 _ 88 rfl rfl (qd rfl);exact qf (o:=gP 6) (run_move rfl (jc k5)) ⟨qc rfl,hJ⟩
  |7,ho=>
   obtain rfl:=qj (a:=gP 7) rfl ho;obtain rfl:=qj (a:=90) rfl hd;exact qf (o:=gP 7) (run_move rfl (jc b0)) ⟨qc rfl,hJ⟩
  |8,ho=>
   obtain rfl:=qj (a:=gP 8) rfl ho;obtain rfl:=qj (a:=91) rfl hd;have k7:x 90=.pointer (some ⟨W,0,none⟩):=qo 7 _ 90 rfl rfl (qd rfl);exact qf (o:=gP 8) (y7 rfl (jc k7)) ⟨qc rfl,hJ⟩
  |9,ho=>
   obtain rfl:=qj (a:=gP 9) rfl ho;obtain rfl:=qj (a:=92) rfl hd;have k8:x 91=.pointer (some ⟨W,0,none⟩):=qo 8 _ 91 rfl rfl (qd rfl);exact qf (o:=gP 9) (Bb rfl (jc k8)) ⟨qc rfl,hJ⟩
  |10,ho=>
   obtain rfl:=qj (a:=gP 10) rfl ho;obtain rfl:=qj (a:=93) rfl hd;have k9:x 92=.pointer (some ⟨W,0,none⟩):=qo 9 _ 92 rfl rfl (qd rfl);exact qf (o:=gP 10) (jk (ty:=40) rfl (jc k9) (by simp[isAgg,underlying40]) hJ.cell0) ⟨qc rfl,hJ⟩
  |11,ho=>
   obtain rfl:=qj (a:=gP 11) rfl ho;obtain rfl:=qj (a:=94) rfl hd;have jE:x 93=.pointer (some ⟨cl,0,none⟩):=qo 10 _ 93 rfl rfl (qd rfl);have e0:(aN (lay 145 x) []).eval (.tmp 93)=_:=tmp (by decide) jE;exact uL (o:=gP 11) rfl (by rw[ax];simp only[aH,aJ,e0]) func35 (by decide) rfl (hJ.look.mono λe w' he=>⟨_,he.1,qc rfl,he.2.1⟩)
  |12,ho=>
   obtain rfl:=qj (a:=gP 12) rfl ho;obtain rfl:=qj (a:=95) rfl hd;exact qf (o:=gP 12) (SL rfl (jc xN) (hJ.at hl)) ⟨qc rfl,hJ⟩
  |13,ho=>
   obtain rfl:=qj (a:=gP 13) rfl ho;obtain rfl:=qj (a:=96) rfl hd;have nZ:x 94=.agg (lH s 4):=qo 11 _ 94 rfl rfl (qd rfl);have uO:x 95=.agg (lH s 4):=qo 12 _ 95 rfl rfl (qd rfl);exact qf (o:=gP 13) (QV rfl s (jc nZ) (jc uO)) ⟨qc rfl,hJ⟩
  |14,ho=>
   obtain rfl:=qj (a:=gP 14) rfl ho;obtain rfl:=qj (a:=97) rfl hd;have k6:x 89=.bool true:=qo 6 _ 89 rfl rfl (qd rfl);have vR:x 96=.bool true:=qo 13 _ 96 rfl rfl (qd rfl);exact qf (o:=gP 14) (F6 (b:=true) rfl (jc k6) (jc vR) rfl) ⟨qc rfl,hJ⟩
  |15,ho=>
   obtain rfl:=qj (a:=gP 15) rfl ho;obtain rfl:=qj (a:=8) rfl hd;have uN:x 97=.bool true:=qo 14 _ 97 rfl rfl (qd rfl);exact qf (o:=gP 15) (oQ rfl (jc uN)) ⟨qc rfl,hJ⟩
  |k+16,ho=>rw[ac (by show 16<=_;omega)]at ho;cases ho
 ·intro y w1 hy hv hJ;exact⟨y,rfl,⟨(hy 0 (qz (by kernel_rfl))).trans h0,(hy 10 (qz (by kernel_rfl))).trans iN,(hy 12 (qz (by kernel_rfl))).trans zX,(hy 13 (qz (by kernel_rfl))).trans KM,hv 15 _ 8 rfl rfl⟩,hJ⟩
noncomputable def GK:Array Oper:=cR (cF (cT (cS (cF zD))))
noncomputable def xh (k:Nat):Oper:=GK.getD k ⟨none,.alloc 0,0, "",#[],none⟩
theorem Zh:qE GK 145 8=true:=by kernel_rfl
def jg8 (cl:Nat) (W:Nat) (pb:Nat) (p:Pst) (ub:ByteArray):Nat->ae
 |0=>.pointer (some ⟨W,0,none⟩)
 |1=>.pointer (some ⟨W,0,none⟩)
 |2=>.pointer (some ⟨W,0,none⟩)
 |3=>.pointer (some ⟨cl,0,none⟩)
 |4=>.pointer (some ⟨pb,0,none⟩)
 |5=>.int .i64 p.host
 |6=>.pointer (some ⟨pb,2,none⟩)
 |7=>.string ub
 |8=>.int .i64 0
 |9=>.bool true
 |10=>.bool true
 |_=>aV
theorem q5o {W:Nat} {p:Pst} {s s':St} {k:KW} (hp:(pb,aW #[.int .i64 p.host,.bool p.rep,.string ub] 96 (0,0))∈fx) (hR:∀V,zh cl W s k fx V->aK prog 65 #[.pointer (some ⟨cl,0,none⟩),.int .i64 p.host,.string ub] V λe w'=>e=.returned (.int .i64 0)/\zh cl W s' k fx w') (h0:x0 0=.pointer (some ⟨W,0,none⟩)) (h9:x0 9=.pointer (some ⟨pb,0,none⟩)) (o5:zh cl W s k fx w):
  (bj 11 GK true).wp prog (JnL 145 λy w'=>(y 0=.pointer (some ⟨W,0,none⟩)/\y 9=.pointer (some ⟨pb,0,none⟩)/\y 8=.bool true)/\zh cl W s' k fx w') ⟨lay 145 x0,[]⟩ w:=by
 refine yw (n:=145) (tn:=8) (x0:=x0) (val:=jg8 cl W pb p ub) (J:=λb w=>if b then zh cl W s' k fx w else zh cl W s k fx w) (by kernel_rfl) Zh ⟨_,rfl,λ_=>rfl⟩ o5.drew ?_ ?_ ?_
 ·intro j o g t ho hg;left;match j,ho with
  |0,ho=>obtain rfl:=qj (a:=xh 0) rfl ho;first|(cases hg;done)|(cases hg;rfl)
  |1,ho=>obtain rfl:=qj (a:=xh 1) rfl ho;first|(cases hg;done)|(cases hg;rfl)
  |2,ho=>obtain rfl:=qj (a:=xh 2) rfl ho;first|(cases hg;done)|(cases hg;rfl)
  |3,ho=>obtain rfl:=qj (a:=xh 3) rfl ho;first|(cases hg;done)|(cases hg;rfl)
  |4,ho=>obtain rfl:=qj (a:=xh 4) rfl ho;first|(cases hg;done)|(cases hg;rfl)
  |5,ho=>obtain rfl:=qj (a:=xh 5) rfl ho;first|(cases hg;done)|(cases hg;rfl)
  |6,ho=>obtain rfl:=qj (a:=xh 6) rfl ho;first|(cases hg;done)|(cases hg;rfl)
  |7,ho=>obtain rfl:=qj (a:=xh 7) rfl ho;first|(cases hg;done)|(cases hg;rfl)
  |8,ho=>obtain rfl:=qj (a:=xh 8) rfl ho;first|(cases hg;done)|(cases hg;rfl)
  |9,ho=>obtain rfl:=qj (a:=xh 9) rfl ho;first|(cases hg;done)|(cases hg;rfl)
  |10,ho=>obtain rfl:=qj (a:=xh 10) rfl ho;first|(cases hg;done)|(cases hg;rfl)
  |k+11,ho=>rw[ac (by show 11<=_;omega)]at ho;cases ho
 ·intro j o d x w1 ho hd hx qo _ hJ;have b0:=(hx 0 (qz (by kernel_rfl))).trans h0;have b9:=(hx 9 (qz (by kernel_rfl))).trans h9;match j,ho with
  |0,ho=>
   obtain rfl:=qj (a:=xh 0) rfl ho;obtain rfl:=qj (a:=100) rfl hd;replace hJ:zh cl W s k fx w1:=hJ;exact qf (o:=xh 0) (run_move rfl (jc b0)) ⟨qc rfl,hJ⟩
  |1,ho=>
   obtain rfl:=qj (a:=xh 1) rfl ho;obtain rfl:=qj (a:=101) rfl hd;replace hJ:zh cl W s k fx w1:=hJ;have k0:x 100=.pointer (some ⟨W,0,none⟩):=qo 0 _ 100 rfl rfl (qd rfl);exact qf (o:=xh 1) (y7 rfl (jc k0)) ⟨qc rfl,hJ⟩
  |2,ho=>
   obtain rfl:=qj (a:=xh 2) rfl ho;obtain rfl:=qj (a:=102) rfl hd;replace hJ:zh cl W s k fx w1:=hJ;have k1:x 101=.pointer (some ⟨W,0,none⟩):=qo 1 _ 101 rfl rfl (qd rfl);exact qf (o:=xh 2) (Bb rfl (jc k1)) ⟨qc rfl,hJ⟩
  |3,ho=>
   obtain rfl:=qj (a:=xh 3) rfl ho;obtain rfl:=qj (a:=103) rfl hd;replace hJ:zh cl W s k fx w1:=hJ;have k2:x 102=.pointer (some ⟨W,0,none⟩):=qo 2 _ 102 rfl rfl (qd rfl);exact qf (o:=xh 3) (jk (ty:=40) rfl (jc k2) (by simp[isAgg,underlying40]) hJ.cell0) ⟨qc rfl,hJ⟩
  |4,ho=>
   obtain rfl:=qj (a:=xh 4) rfl ho;obtain rfl:=qj (a:=104) rfl hd;replace hJ:zh cl W s k fx w1:=hJ;exact qf (o:=xh 4) (EK 0 (by decide) rfl (jc b9)) ⟨qc rfl,hJ⟩
  |5,ho=>
   obtain rfl:=qj (a:=xh 5) rfl ho;obtain rfl:=qj (a:=105) rfl hd;replace hJ:zh cl W s k fx w1:=hJ;have k4:x 104=.pointer (some ⟨pb,0,none⟩):=qo 4 _ 104 rfl rfl (qd rfl);exact qf (o:=xh 5) (jk (ty:=3) rfl (jc k4) (by simp[isAgg,underlying3]) (hJ.post hp).1) ⟨qc rfl,hJ⟩
  |6,ho=>
   obtain rfl:=qj (a:=xh 6) rfl ho;obtain rfl:=qj (a:=106) rfl hd;replace hJ:zh cl W s k fx w1:=hJ;exact qf (o:=xh 6) (EK 2 (by decide) rfl (jc b9)) ⟨qc rfl,hJ⟩
  |7,ho=>
   obtain rfl:=qj (a:=xh 7) rfl ho;obtain rfl:=qj (a:=107) rfl hd;replace hJ:zh cl W s k fx w1:=hJ;have k6:x 106=.pointer (some ⟨pb,2,none⟩):=qo 6 _ 106 rfl rfl (qd rfl);exact qf (o:=xh 7) (jk (ty:=9) rfl (jc k6) (by simp[isAgg,underlying9]) (hJ.post hp).2.2) ⟨qc rfl,hJ⟩
  |8,ho=>
   obtain rfl:=qj (a:=xh 8) rfl ho;obtain rfl:=qj (a:=108) rfl hd;replace hJ:zh cl W s k fx w1:=hJ;have k3:x 103=.pointer (some ⟨cl,0,none⟩):=qo 3 _ 103 rfl rfl (qd rfl);have k5:x 105=.int .i64 p.host:=qo 5 _ 105 rfl rfl (qd rfl);have k7:x 107=.string ub:=qo 7 _ 107 rfl rfl (qd rfl);have e0:(aN (lay 145 x) []).eval (.tmp 103)=_:=tmp (by decide) k3;have e1:(aN (lay 145 x) []).eval (.tmp 105)=_:=tmp (by decide) k5;have e2:(aN (lay 145 x) []).eval (.tmp 107)=_:=tmp (by decide) k7;exact uL (o:=xh 8) rfl (by rw[ax];simp only[aH,aJ,e0,e1,e2]<;>rfl) func65 (by decide) rfl ((hR w1 hJ).mono λe w' he=>⟨_,he.1,qc rfl,he.2⟩)
  |9,ho=>
   obtain rfl:=qj (a:=xh 9) rfl ho;obtain rfl:=qj (a:=109) rfl hd;replace hJ:zh cl W s' k fx w1:=hJ;have k8:x 108=.int .i64 0:=qo 8 _ 108 rfl rfl (qd rfl);exact qf (o:=xh 9) (LM (x:=0) (y:=0) rfl (jc k8) rfl) ⟨qc rfl,hJ⟩
  |10,ho=>
   obtain rfl:=qj (a:=xh 10) rfl ho;obtain rfl:=qj (a:=8) rfl hd;replace hJ:zh cl W s' k fx w1:=hJ;have k9:x 109=.bool true:=qo 9 _ 109 rfl rfl (qd rfl);exact qf (o:=xh 10) (oQ rfl (jc k9)) ⟨qc rfl,hJ⟩
  |k+11,ho=>rw[ac (by show 11<=_;omega)]at ho;cases ho
 ·intro y w1 hy hv hJ;exact⟨y,rfl,⟨(hy 0 (qz (by kernel_rfl))).trans h0,(hy 9 (qz (by kernel_rfl))).trans h9,hv 10 _ 8 rfl rfl⟩,hJ⟩
noncomputable def Ec:Array Oper:=cR (cF (cS zE))
noncomputable def zq (k:Nat):Oper:=Ec.getD k ⟨none,.alloc 0,0, "",#[],none⟩
theorem Zg:qE Ec 145 8=true:=by kernel_rfl
def jg9 (cl:Nat) (W:Nat) (pb:Nat) (p:Pst) (ub:ByteArray) (ab:ByteArray) (fr:Nat) (i:Nat) (c:Nat) (wh:Nat):Nat->ae
 |0=>.pointer (some ⟨W,0,none⟩)
 |1=>.pointer (some ⟨W,0,none⟩)
 |2=>.pointer (some ⟨W,0,none⟩)
 |3=>.pointer (some ⟨cl,0,none⟩)
 |4=>.pointer (some ⟨pb,0,none⟩)
 |5=>.int .i64 p.host
 |6=>.pointer (some ⟨pb,2,none⟩)
 |7=>.string ub
 |8=>.tuple #[.string ab,.int .i64 0]
 |9=>.tuple #[.string ab,.int .i64 0]
 |10=>.string ab
 |11=>.int .i64 0
 |12=>.string ab
 |13=>.int .i64 0
 |_=>aV
theorem q5p {W:Nat} {p:Pst} {ab:ByteArray} {c:Nat} {wh:Nat} {s s':St} {k:KW} (hp:(pb,aW #[.int .i64 p.host,.bool p.rep,.string ub] 96 (0,0))∈fx) (hR:∀V,zh cl W s k fx V->aK prog 63 #[.pointer (some ⟨cl,0,none⟩),.int .i64 p.host,.string ub] V λe w'=>e=.returned (.tuple #[.string ab,.int .i64 0])/\zh cl W s' k fx w') (h0:x0 0=.pointer (some ⟨W,0,none⟩)) (h9:x0 9=.pointer (some ⟨pb,0,none⟩)) (BD:x0 14=.int .i64 fr) (h1:x0 1=.int .i64 i) (h2:x0 2=.int .u8 c) (h3:x0 3=.int .i64 wh) (o5:zh cl W s k fx w):
  (bj 13 Ec true).wp prog (JnL 145 λy w'=>(y 0=.pointer (some ⟨W,0,none⟩)/\y 9=.pointer (some ⟨pb,0,none⟩)/\y 14=.int .i64 fr/\y 1=.int .i64 i/\y 2=.int .u8 c/\y 3=.int .i64 wh/\y 15=.string ab/\y 16=.int .i64 0)/\zh cl W s' k fx w') ⟨lay 145 x0,[]⟩ w:=by
 refine yw (n:=145) (tn:=8) (x0:=x0) (val:=jg9 cl W pb p ub ab fr i c wh) (J:=λb w=>if b then zh cl W s' k fx w else zh cl W s k fx w) (by kernel_rfl) Zg ⟨_,rfl,λ_=>rfl⟩ o5.drew ?_ ?_ ?_
 ·intro j o g t ho hg;left;match j,ho with
  |0,ho=>obtain rfl:=qj (a:=zq 0) rfl ho;first|(cases hg;done)|(cases hg;rfl)
  |1,ho=>obtain rfl:=qj (a:=zq 1) rfl ho;first|(cases hg;done)|(cases hg;rfl)
  |2,ho=>obtain rfl:=qj (a:=zq 2) rfl ho;first|(cases hg;done)|(cases hg;rfl)
  |3,ho=>obtain rfl:=qj (a:=zq 3) rfl ho;first|(cases hg;done)|(cases hg;rfl)
  |4,ho=>obtain rfl:=qj (a:=zq 4) rfl ho;first|(cases hg;done)|(cases hg;rfl)
  |5,ho=>obtain rfl:=qj (a:=zq 5) rfl ho;first|(cases hg;done)|(cases hg;rfl)
  |6,ho=>obtain rfl:=qj (a:=zq 6) rfl ho;first|(cases hg;done)|(cases hg;rfl)
  |7,ho=>obtain rfl:=qj (a:=zq 7) rfl ho;first|(cases hg;done)|(cases hg;rfl)
  |8,ho=>obtain rfl:=qj (a:=zq 8) rfl ho;first|(cases hg;done)|(cases hg;rfl)
  |9,ho=>obtain rfl:=qj (a:=zq 9) rfl ho;first|(cases hg;done)|(cases hg;rfl)
  |10,ho=>obtain rfl:=qj (a:=zq 10) rfl ho;first|(cases hg;done)|(cases hg;rfl)
  |11,ho=>obtain rfl:=qj (a:=zq 11) rfl ho;first|(cases hg;done)|(cases hg;rfl)
  |12,ho=>obtain rfl:=qj (a:=zq 12) rfl ho;first|(cases hg;done)|(cases hg;rfl)
  |13,ho=>obtain rfl:=qj (a:=zq 13) rfl ho;first|(cases hg;done)|(cases hg;rfl)
  |k+14,ho=>rw[ac (by show 14<=_;omega)]at ho;cases ho
 ·intro j o d x w1 ho hd hx qo _ hJ;have b0:=(hx 0 (qz (by kernel_rfl))).trans h0;have b9:=(hx 9 (qz (by kernel_rfl))).trans h9;have b14:=(hx 14 (qz (by kernel_rfl))).trans BD;have b1:=(hx 1 (qz (by kernel_rfl))).trans h1;have b2:=(hx 2 (qz (by kernel_rfl))).trans h2;have b3:=(hx 3 (qz (by kernel_rfl))).trans h3;match j,ho with
  |0,ho=>
   obtain rfl:=qj (a:=zq 0) rfl ho;obtain rfl:=qj (a:=118) rfl hd;replace hJ:zh cl W s k fx w1:=hJ;exact qf (o:=zq 0) (run_move rfl (jc b0)) ⟨qc rfl,hJ⟩
  |1,ho=>
   obtain rfl:=qj (a:=zq 1) rfl ho;obtain rfl:=qj (a:=119) rfl hd;replace hJ:zh cl W s k fx w1:=hJ;have k0:x 118=.pointer (some ⟨W,0,none⟩):=qo 0 _ 118 rfl rfl (qd rfl);exact qf (o:=zq 1) (y7 rfl (jc k0)) ⟨qc rfl,hJ⟩
  |2,ho=>
   obtain rfl:=qj (a:=zq 2) rfl ho;obtain rfl:=qj (a:=120) rfl hd;replace hJ:zh cl W s k fx w1:=hJ;have k1:x 119=.pointer (some ⟨W,0,none⟩):=qo 1 _ 119 rfl rfl (qd rfl);exact qf (o:=zq 2) (Bb rfl (jc k1)) ⟨qc rfl,hJ⟩
  |3,ho=>
   obtain rfl:=qj (a:=zq 3) rfl ho;obtain rfl:=qj (a:=121) rfl hd;replace hJ:zh cl W s k fx w1:=hJ;have k2:x 120=.pointer (some ⟨W,0,none⟩):=qo 2 _ 120 rfl rfl (qd rfl);exact qf (o:=zq 3) (jk (ty:=40) rfl (jc k2) (by simp[isAgg,underlying40]) hJ.cell0) ⟨qc rfl,hJ⟩
  |4,ho=>
   obtain rfl:=qj (a:=zq 4) rfl ho;obtain rfl:=qj (a:=122) rfl hd;replace hJ:zh cl W s k fx w1:=hJ;exact qf (o:=zq 4) (EK 0 (by decide) rfl (jc b9)) ⟨qc rfl,hJ⟩
  |5,ho=>
   obtain rfl:=qj (a:=zq 5) rfl ho;obtain rfl:=qj (a:=123) rfl hd;replace hJ:zh cl W s k fx w1:=hJ;have k4:x 122=.pointer (some ⟨pb,0,none⟩):=qo 4 _ 122 rfl rfl (qd rfl);exact qf (o:=zq 5) (jk (ty:=3) rfl (jc k4) (by simp[isAgg,underlying3]) (hJ.post hp).1) ⟨qc rfl,hJ⟩
  |6,ho=>
   obtain rfl:=qj (a:=zq 6) rfl ho;obtain rfl:=qj (a:=124) rfl hd;replace hJ:zh cl W s k fx w1:=hJ;exact qf (o:=zq 6) (EK 2 (by decide) rfl (jc b9)) ⟨qc rfl,hJ⟩
  |7,ho=>
   obtain rfl:=qj (a:=zq 7) rfl ho;obtain rfl:=qj (a:=125) rfl hd;replace hJ:zh cl W s k fx w1:=hJ;have k6:x 124=.pointer (some ⟨pb,2,none⟩):=qo 6 _ 124 rfl rfl (qd rfl);exact qf (o:=zq 7) (jk (ty:=9) rfl (jc k6) (by simp[isAgg,underlying9]) (hJ.post hp).2.2) ⟨qc rfl,hJ⟩
  |8,ho=>
   obtain rfl:=qj (a:=zq 8) rfl ho;obtain rfl:=qj (a:=126) rfl hd;replace hJ:zh cl W s k fx w1:=hJ;have k3:x 121=.pointer (some ⟨cl,0,none⟩):=qo 3 _ 121 rfl rfl (qd rfl);have k5:x 123=.int .i64 p.host:=qo 5 _ 123 rfl rfl (qd rfl);have k7:x 125=.string ub:=qo 7 _ 125 rfl rfl (qd rfl);have e0:(aN (lay 145 x) []).eval (.tmp 121)=_:=tmp (by decide) k3;have e1:(aN (lay 145 x) []).eval (.tmp 123)=_:=tmp (by decide) k5;have e2:(aN (lay 145 x) []).eval (.tmp 125)=_:=tmp (by decide) k7;exact uL (o:=zq 8) rfl (by rw[ax];simp only[aH,aJ,e0,e1,e2]<;>rfl) func63 (by decide) rfl ((hR w1 hJ).mono λe w' he=>⟨_,he.1,qc rfl,he.2⟩)
  |9,ho=>
   obtain rfl:=qj (a:=zq 9) rfl ho;obtain rfl:=qj (a:=117) rfl hd;replace hJ:zh cl W s' k fx w1:=hJ;have k8:x 126=.tuple #[.string ab,.int .i64 0]:=qo 8 _ 126 rfl rfl (qd rfl);exact qf (o:=zq 9) (run_move rfl (jc k8)) ⟨qc rfl,hJ⟩
  |10,ho=>
   obtain rfl:=qj (a:=zq 10) rfl ho;obtain rfl:=qj (a:=127) rfl hd;replace hJ:zh cl W s' k fx w1:=hJ;have k9:x 117=.tuple #[.string ab,.int .i64 0]:=qo 9 _ 117 rfl rfl (qd rfl);exact qf (o:=zq 10) (Es (i:=0) rfl (jc k9) rfl) ⟨qc rfl,hJ⟩
  |11,ho=>
   obtain rfl:=qj (a:=zq 11) rfl ho;obtain rfl:=qj (a:=128) rfl hd;replace hJ:zh cl W s' k fx w1:=hJ;have k9:x 117=.tuple #[.string ab,.int .i64 0]:=qo 9 _ 117 rfl rfl (qd rfl);exact qf (o:=zq 11) (Es (i:=1) rfl (jc k9) rfl) ⟨qc rfl,hJ⟩
  |12,ho=>
   obtain rfl:=qj (a:=zq 12) rfl ho;obtain rfl:=qj (a:=15) rfl hd;replace hJ:zh cl W s' k fx w1:=hJ;have jE:x 127=.string ab:=qo 10 _ 127 rfl rfl (qd rfl);exact qf (o:=zq 12) (oQ rfl (jc jE)) ⟨qc rfl,hJ⟩
  |13,ho=>
   obtain rfl:=qj (a:=zq 13) rfl ho;obtain rfl:=qj (a:=16) rfl hd;replace hJ:zh cl W s' k fx w1:=hJ;have nZ:x 128=.int .i64 0:=qo 11 _ 128 rfl rfl (qd rfl);exact qf (o:=zq 13) (oQ rfl (jc nZ)) ⟨qc rfl,hJ⟩
  |k+14,ho=>rw[ac (by show 14<=_;omega)]at ho;cases ho
 ·intro y w1 hy hv hJ;exact⟨y,rfl,⟨(hy 0 (qz (by kernel_rfl))).trans h0,(hy 9 (qz (by kernel_rfl))).trans h9,(hy 14 (qz (by kernel_rfl))).trans BD,(hy 1 (qz (by kernel_rfl))).trans h1,(hy 2 (qz (by kernel_rfl))).trans h2,(hy 3 (qz (by kernel_rfl))).trans h3,hv 12 _ 15 rfl rfl,hv 13 _ 16 rfl rfl⟩,hJ⟩
theorem uI (y:Nat->ae):lay 145 y=#[y 0,y 1,y 2,y 3,y 4,y 5,y 6,y 7,y 8,y 9,y 10,y 11,y 12,y 13,y 14,y 15,y 16,y 17,y 18,y 19,y 20,y 21,y 22,y 23,y 24,y 25,y 26,y 27,y 28,y 29,y 30,y 31,y 32,y 33,y 34,y 35,y 36,y 37,y 38,y 39,y 40,y 41,y 42,y 43,y 44,y 45,y 46,y 47,y 48,y 49,y 50,y 51,y 52,y 53,y 54,y 55,y 56,y 57,y 58,y 59,y 60,y 61,y 62,y 63,y 64,y 65,y 66,y 67,y 68,y 69,y 70,y 71,y 72,y 73,y 74,y 75,y 76,y 77,y 78,y 79,y 80,y 81,y 82,y 83,y 84,y 85,y 86,y 87,y 88,y 89,y 90,y 91,y 92,y 93,y 94,y 95,y 96,y 97,y 98,y 99,y 100,y 101,y 102,y 103,y 104,y 105,y 106,y 107,y 108,y 109,y 110,y 111,y 112,y 113,y 114,y 115,y 116,y 117,y 118,y 119,y 120,y 121,y 122,y 123,y 124,y 125,y 126,y 127,y 128,y 129,y 130,y 131,y 132,y 133,y 134,y 135,y 136,y 137,y 138,y 139,y 140,y 141,y 142,y 143,y 144]:=rfl
noncomputable def zR0:Code:=cF zB
noncomputable def zR1:Code:=cF (cS zB)
noncomputable def zR2:Code:=cF (cF zC)
noncomputable def zR3:Code:=cF zT
noncomputable def zR4:Code:=cF (cS zT)
noncomputable def zR5:Code:=cF (cS (cS zT))
noncomputable def zR6:Code:=cF (cF zT6)
noncomputable def Kj:Code:=cF (cF zD)
noncomputable def Ki:Code:=cF zE
noncomputable def Am:Code:=cS (cS zE)
noncomputable def Kh:Code:=cF (cF Am)
noncomputable def Kg:Code:=cT (cS (cF Am))
noncomputable def Ke:Code:=cF (cS Am)
structure FrB (W i c wh:Nat) (x:Nat->ae):Prop where
 w:x 0=.pointer (some ⟨W,0,none⟩)
 i:x 1=.int .i64 i
 c:x 2=.int .u8 c
 h:x 3=.int .i64 wh
theorem Tk:∀(l:List Pst) (j:Nat) (p:Pst),l[j]?=some p->(xk l)[j*3]?=some (.int .i64 p.host)/\(xk l)[j*3+1]?=some (.bool p.rep)/\(xk l)[j*3+2]?=some (sv p.s)
 |[],_,_,h=>by cases h
 |q::l,0,p,h=>by cases h;exact⟨rfl,rfl,rfl⟩
 |q::l,j+1,p,h=>by
  have:=Tk l j p h;have e:∀m,(xk (q::l))[m+3]?=(xk l)[m]?:=λm=>rfl;rw[show(j+1)*3=j*3+3 by omega,show j*3+3+1=(j*3+1)+3 by omega,show j*3+3+2=(j*3+2)+3 by omega,e,e,e];exact this
def postO (p:Pst) (ub:ByteArray):Obj:=.cells #[.int .i64 p.host,.bool p.rep,.string ub] 96 (0,0)
section
variable {w w':ag} {x:Nat->ae} {W i c wh cl pb lb:Nat} {s s':St} {k:KW} {fx:List (Nat×Obj)} {p:Pst} {ub:ByteArray}
theorem KAt.posts {F:Nat->Prop} {A:PA} {lv wv:ae} (h:KAt w F A W lv wv s k) (hp:k.way[i]?=some p) (oo:sv p.s=.string ub):∃g cap,wv=.slice (some ⟨g,0,none⟩) k.way.length cap/\w.cell? ⟨W,6,none⟩=some (.slice (some ⟨g,0,none⟩) k.way.length cap)/\w.cell? ⟨g,i*3,none⟩=some (.int .i64 p.host)/\w.cell? ⟨g,i*3+1,none⟩=some (.bool p.rep)/\w.cell? ⟨g,i*3+2,none⟩=some (.string ub):=by
 have dY:=(ao.1 hp).1;have c6:=(h.cells 6 wv rfl).1;rcases h.wy.2 with⟨_,hz⟩|⟨g,cap,cur,e,_⟩
 ·omega
 ·have hw:=h.wy;rw[e]at hw;obtain⟨f0,f1,f2⟩:=Tk _ _ _ hp;have d0:=hw.cells (g:=g) rfl _ _ f0;have d1:=hw.cells (g:=g) rfl _ _ f1;have d2:=hw.cells (g:=g) rfl _ _ f2;rw[Addr.add_lit,bR]at d0 d1 d2;rw[oo]at d2;exact⟨g,cap,e,by rw[<-e];exact c6,d0,d1,d2⟩
theorem jfy (hx:FrB W i c wh x):zR0.wp prog (JnL 145 λx' w'=>FrB W i c wh x'/\Same w w') ⟨lay 145 x,[]⟩ w:=by
 obtain⟨h0,h1,h2,h3⟩:=hx;obtain⟨x,rfl⟩:=qb h0;obtain⟨x,rfl⟩:=qb (x:=x) (j:=1) h1;obtain⟨x,rfl⟩:=qb (x:=x) (j:=2) h2;obtain⟨x,rfl⟩:=qb (x:=x) (j:=3) h3;clear h0 h1 h2 h3;rw[uI];unfold zR0 zB;simp only[Tryz.f48,au,cS,cF,cT,upd,ai,if_true,if_false];go_wp2;exact jh rfl ⟨⟨rfl,rfl,rfl,rfl⟩,Same.refl _⟩
theorem jfz (hx:FrB W i c wh x) (h:zh cl W s k [] w) (hp:k.way[i]?=some p) (oo:sv p.s=.string ub) (hl:k.way.length<=100000):
  zR1.wp prog (JnL 145 λx' w'=>∃pb,(FrB W i c wh x'/\x' 9=.pointer (some ⟨pb,0,none⟩))/\zh cl W s k [(pb,postO p ub)] w') ⟨lay 145 x,[]⟩ w:=by
 have H:=Hd h;obtain⟨F,A,lv,wv,e,h,_⟩:=h;have dY:=(ao.1 hp).1;obtain⟨g,cap,_,c6,d0,d1,d2⟩:=h.posts hp oo;generalize k.way.length=L at c6 dY hl;have i1:(i:Int)<L:=by omega
 have i0:(0:Int)<=i:=by omega
 clear h;obtain⟨h0,h1,h2,h3⟩:=hx;obtain⟨x,rfl⟩:=qb h0;obtain⟨x,rfl⟩:=qb (x:=x) (j:=1) h1;obtain⟨x,rfl⟩:=qb (x:=x) (j:=2) h2;obtain⟨x,rfl⟩:=qb (x:=x) (j:=3) h3;clear h0 h1 h2 h3;rw[uI];unfold zR1 zB;simp only[Tryz.f48,au,cS,cF,cT,upd,ai,if_true,if_false];go_wp2;exact jh rfl ⟨w.heap.size,⟨⟨rfl,rfl,rfl,rfl⟩,rfl⟩,H.cons ((zk _ _).alloc (ji _) _) (ji _) (aR _ _)⟩
theorem jf0 (hx:FrB W i c wh x) (h9:x 9=.pointer (some ⟨pb,0,none⟩)) (h:zh cl W s k [(pb,postO p ub)] w) (hu:1<=ub.size):
  zR2.wp prog (JnL 145 λx' w'=>(FrB W i c wh x'/\x' 9=.pointer (some ⟨pb,0,none⟩)/\x' 31=.bool (decide (c≠0)))/\zh cl W s k [(pb,postO p ub)] w') ⟨lay 145 x,[]⟩ w:=by
 have H:=Hd h;obtain⟨d0,d1,d2⟩:=h.post (.head _);have g2:decide ((0:Int)<(ub.size:Int))=true:=by simp;omega
 clear h;obtain⟨h0,h1,h2,h3⟩:=hx;obtain⟨x,rfl⟩:=qb h0;obtain⟨x,rfl⟩:=qb (x:=x) (j:=1) h1;obtain⟨x,rfl⟩:=qb (x:=x) (j:=2) h2;obtain⟨x,rfl⟩:=qb (x:=x) (j:=3) h3;obtain⟨x,rfl⟩:=qb (x:=x) (j:=9) h9;clear h0 h1 h2 h3 h9;rw[uI];unfold zR2 zC zB;simp only[Tryz.f48,au,cS,cF,cT,upd,ai,if_true,if_false];by_cases hc:c=0
 ·subst hc;go_wp2;exact jh rfl ⟨⟨⟨rfl,rfl,rfl,rfl⟩,rfl,rfl⟩,H.o⟩
 ·have g1:((c:Int) !=0)=true:=by simp;omega
  have g3:decide ((c:Int)=0)=false:=by simp;omega
  have g4:decide (c=0)=false:=zu hc;have g5:((c:Int)==0)=false:=by simp;omega
  have e1:decide (c≠0)=true:=xdt hc;have g6:decide (0<ub.size)=true:=xdt (by omega);rw[e1];clear e1;go_wp2;refine jh rfl ⟨⟨⟨rfl,rfl,rfl,rfl⟩,rfl,?_⟩,H.o⟩;first|rfl|exact congrArg aE g6
theorem jan (hx:FrB W i c wh x) (h9:x 9=.pointer (some ⟨pb,0,none⟩)) (h:zh cl W s k [(pb,postO p ub)] w):
  Kj.wp prog (JnL 145 λx' w'=>(FrB W i c wh x'/\x' 9=.pointer (some ⟨pb,0,none⟩)/\x' 99=.bool p.rep)/\zh cl W s k [(pb,postO p ub)] w') ⟨lay 145 x,[]⟩ w:=by
 have H:=Hd h;obtain⟨d0,d1,d2⟩:=h.post (.head _);clear h;obtain⟨h0,h1,h2,h3⟩:=hx;obtain⟨x,rfl⟩:=qb h0;obtain⟨x,rfl⟩:=qb (x:=x) (j:=1) h1;obtain⟨x,rfl⟩:=qb (x:=x) (j:=2) h2;obtain⟨x,rfl⟩:=qb (x:=x) (j:=3) h3;obtain⟨x,rfl⟩:=qb (x:=x) (j:=9) h9;clear h0 h1 h2 h3 h9;rw[uI];unfold Kj zD zC zB;simp only[Tryz.f48,au,cS,cF,cT,upd,ai,if_true,if_false];go_wp2;exact jh rfl ⟨⟨⟨rfl,rfl,rfl,rfl⟩,rfl,rfl⟩,H.o⟩
theorem jap (hx:FrB W i c wh x) (h9:x 9=.pointer (some ⟨pb,0,none⟩)) (h:zh cl W s k [(pb,postO p ub)] w) (n:Nat) (hn:n<4) (hu:1<ub.size) (hb:(ub[1]'hu).toNat%4=n) (ho:s.ow n<3):
  Ki.wp prog (JnL 145 λx' w'=>(FrB W i c wh x'/\x' 9=.pointer (some ⟨pb,0,none⟩)/\x' 14=.int .i64 (s.ow n))/\zh cl W s k [(pb,postO p ub)] w') ⟨lay 145 x,[]⟩ w:=by
 have H:=Hd h;obtain⟨d0,d1,d2⟩:=h.post (.head _);have HO:∀V,zh cl W s k [(pb,postO p ub)] V->aK prog 76 #[.pointer (some ⟨W,0,none⟩),.int .i64 n] V λe w'=>e=.returned (.int .i64 (s.ow n))/\zh cl W s k [(pb,postO p ub)] w':=λV hV=>by
  have WL:=hV;obtain⟨F,A,lv,wv,e,hk,_⟩:=WL;exact(q2g hk n hn ho).mono λe w' q=>⟨q.1,hV.below q.2⟩
 have HO:=Hd HO;obtain⟨b,fJ⟩:∃b:Nat,(ub[1]'hu).toNat=b:=⟨_,rfl⟩
 rw[fJ]at hb;have b256:b<256:=by rw[<-fJ];exact UInt8.toNat_lt _
 have fO:(b:Int).tmod 4=n:=by rw[Int.tmod_eq_emod_of_nonneg (by omega)];omega
 have iI:wrap64 (b:Int)=b:=by unfold wrap64;omega
 have oq:(1:Int)<(ub.size:Int):=by omega
 generalize s.ow n=on at HO⊢;clear h hb ho;obtain⟨h0,h1,h2,h3⟩:=hx;obtain⟨x,rfl⟩:=qb h0;obtain⟨x,rfl⟩:=qb (x:=x) (j:=1) h1;obtain⟨x,rfl⟩:=qb (x:=x) (j:=2) h2;obtain⟨x,rfl⟩:=qb (x:=x) (j:=3) h3;obtain⟨x,rfl⟩:=qb (x:=x) (j:=9) h9;clear h0 h1 h2 h3 h9;rw[uI];unfold Ki zE zD zC zB;simp only[Tryz.f48,au,cS,cF,cT,upd,ai,if_true,if_false];go_wp2_with (go_at_call 76;refine(HO.o _ H.o).mono ?_;rintro e w1 ⟨rfl,hb⟩;have HX:=Hd hb;clear hb)
 exact jh rfl ⟨⟨⟨rfl,rfl,rfl,rfl⟩,rfl,rfl⟩,HX.o⟩
end
section
variable {w:ag}
def turned (b:ByteArray) (j:Nat) (v:Int):List UInt8:=b.data.toList.set j (bk (v%256).toNat)
theorem Ty (b:ByteArray) (j:Nat) (v:Int):(turned b j v).length=b.size:=by
 unfold turned;rw[List.length_set];simp
theorem Ui (b:ByteArray) (cap i:Nat) (hi:i<b.size):(bytesRow b cap)[i]?=some (.int .u8 ((b.data.toList[i]'(by simpa using hi)).toNat:Int)):=by
 unfold bytesRow;rw[aI (by simpa using hi),Array.getElem?_map,bi (by simpa using hi)];rfl
theorem qq0 {b:ByteArray} {N cap z:Nat} {v:Int} (hb:w.heap[N]?=some (.cells ((bytesRow b cap).setIfInBounds q (.int .u8 (v%256))) 5 (z,z+1))):(convert 139 9 (.slice (some ⟨N,0,none⟩) b.size cap)).run prog w=.ok (.string ⟨(turned b q v).toArray⟩) w:=by
 have h:=run_convert_bytes_back (P:=prog) w 139 9 5 ⟨N,0,none⟩ cap (turned b q v) underlying139 underlying5 underlying9 (λj hj=>by
  rw[Addr.add_lit,bR];have Hf:j<b.size:=by simpa[turned]using hj
  have h1:=Ui b cap j Hf;have h2:=(yx h1).1;unfold aD;simp only[hb];by_cases e:q=j
  ·subst e;rw[xsl h2];simp only[turned,List.getElem_set_self];simp;omega
  ·rw[xne e,h1]
   simp[turned,List.getElem_set_ne e])
 have hl:(turned b q v).length=b.size:=Ty b q v;rw[hl]at h;exact h
theorem qsi (b:ByteArray) (q:Nat) (v:Int):(⟨(turned b q v).toArray⟩:ByteArray).size=b.size:=by
 show(turned b q v).toArray.size=_;rw[List.size_toArray,Ty]
end
section
variable {w w':ag} {x:Nat->ae} {W i c wh cl pb lb bb:Nat} {s s':St} {k:KW} {p:Pst} {ub:ByteArray} {bv:ae}
def lookO (s:St):Obj:=.cells (lH s 4) 70 (0,0)
theorem jf1 (hx:FrB W i c wh x) (h9:x 9=.pointer (some ⟨pb,0,none⟩)) (h:zh cl W s k [(pb,postO p ub)] w):
  zR3.wp prog (JnL 145 λx' w'=>∃lb,(FrB W i c wh x'/\x' 9=.pointer (some ⟨pb,0,none⟩)/\x' 10=.pointer (some ⟨lb,0,none⟩))/\zh cl W s k [(lb,lookO s),(pb,postO p ub)] w') ⟨lay 145 x,[]⟩ w:=by
 have c0:=h.cell0;have HP:=h.look;unfold lookO;obtain⟨E,o0,o1,o2,o3,m0,m1,m2,m3,b0,b1,b2,b3,hv,_⟩:=yM s;rw[hv]at HP⊢;replace HP:=Hd HP;clear h hv;obtain⟨h0,h1,h2,h3⟩:=hx;obtain⟨x,rfl⟩:=qb h0;obtain⟨x,rfl⟩:=qb (x:=x) (j:=1) h1;obtain⟨x,rfl⟩:=qb (x:=x) (j:=2) h2;obtain⟨x,rfl⟩:=qb (x:=x) (j:=3) h3;obtain⟨x,rfl⟩:=qb (x:=x) (j:=9) h9;clear h0 h1 h2 h3 h9;rw[uI];unfold zR3 zT zC zB;simp only[Tryz.f48,au,cS,cF,cT,upd,ai,if_true,if_false];go_wp2_with (go_at_call 35;refine(HP.o).mono ?_;rintro e w1 ⟨rfl,hb,_⟩;have HX:=Hd hb;clear hb)
 exact jh rfl ⟨w1.heap.size,⟨⟨rfl,rfl,rfl,rfl⟩,rfl,rfl⟩,HX.cons ((zk _ _).alloc (ji _) _) (ji _) (aR _ _)⟩
def IJ (ub:ByteArray) (cap z:Nat):Obj:=.cells (bytesRow ub cap) 5 (z,z+1)
theorem jf2 (hx:FrB W i c wh x) (h9:x 9=.pointer (some ⟨pb,0,none⟩)) (iN:x 10=.pointer (some ⟨lb,0,none⟩)) (h:zh cl W s k [(lb,lookO s),(pb,postO p ub)] w):
  zR4.wp prog (JnL 145 λx' w'=>∃bb cap z,(FrB W i c wh x'/\x' 9=.pointer (some ⟨pb,0,none⟩)/\x' 10=.pointer (some ⟨lb,0,none⟩)/\x' 11=.slice (some ⟨bb,0,none⟩) ub.size cap/\z=(bytesRow ub cap).size/\lb≠bb/\pb≠bb)/\zh cl W s k [(bb,IJ ub cap z),(lb,lookO s),(pb,postO p ub)] w') ⟨lay 145 x,[]⟩ w:=by
 have H:=Hd h;obtain⟨d0,d1,d2⟩:=h.post (.tail _ (.head _));have l1:=(yx (h.at (.head _))).1;have l2:=(yx (h.at (.tail _ (.head _)))).1;have vZ:=λw s=>run_bytes_of_string (P:=prog) w 9 139 5 s underlying9 underlying139 underlying5;clear h;obtain⟨h0,h1,h2,h3⟩:=hx;obtain⟨x,rfl⟩:=qb h0;obtain⟨x,rfl⟩:=qb (x:=x) (j:=1) h1;obtain⟨x,rfl⟩:=qb (x:=x) (j:=2) h2;obtain⟨x,rfl⟩:=qb (x:=x) (j:=3) h3;obtain⟨x,rfl⟩:=qb (x:=x) (j:=9) h9;obtain⟨x,rfl⟩:=qb (x:=x) (j:=10) iN;clear h0 h1 h2 h3 h9 iN;rw[uI];unfold zR4 zT zC zB;simp only[Tryz.f48,au,cS,cF,cT,upd,ai,if_true,if_false];go_wp2;exact jh rfl ⟨w.heap.size,_,_,⟨⟨rfl,rfl,rfl,rfl⟩,rfl,rfl,rfl,rfl,by omega,by omega⟩,H.cons ((zk _ _).drew.alloc (ji _) _) (ji _) (aR _ _)⟩
theorem jf3 {cap z:Nat} (hx:FrB W i c wh x) (h9:x 9=.pointer (some ⟨pb,0,none⟩)) (iN:x 10=.pointer (some ⟨lb,0,none⟩)) (nP:x 11=.slice (some ⟨bb,0,none⟩) ub.size cap) (hz:z=(bytesRow ub cap).size) (tY:lb≠bb) (mg:pb≠bb)
  (h:zh cl W s k [(bb,IJ ub cap z),(lb,lookO s),(pb,postO p ub)] w) (hu:1<=ub.size) (Bh:ub.size<=57) (hq:wh%ub.size=q) (Kq:wh<=255) (hc:c<256) (pI:c≠0):
  zR5.wp prog (JnL 145 λx' w'=>∃v:Int,(FrB W i c wh x'/\x' 9=.pointer (some ⟨pb,0,none⟩)/\x' 10=.pointer (some ⟨lb,0,none⟩)/\x' 11=.slice (some ⟨bb,0,none⟩) ub.size cap/\∀zI:q<ub.data.toList.length,bk (v%256).toNat≠ub.data.toList[q]'(zI))/\zh cl W s k [(bb,.cells ((bytesRow ub cap).setIfInBounds q (.int .u8 (v%256))) 5 (z,z+1)),(lb,lookO s),(pb,postO p ub)] w') ⟨lay 145 x,[]⟩ w:=by
 have H:=Hd h;have zI:q<ub.size:=by rw[<-hq];exact Nat.mod_lt _ (by omega)
 have hr:=Ui ub cap q zI;have hrl:=(yx hr).1;have eP:=h.at (.head _);unfold IJ at eP;obtain⟨a,ha⟩:∃a:Nat,(ub.data.toList[q]'(by simpa using zI)).toNat=a:=⟨_,rfl⟩
 have Qq:a<256:=by rw[<-ha];exact UInt8.toNat_lt _
 rw[ha]at hr;have d0:w.cell? ⟨bb,q,none⟩=some (.int .u8 (a:Int)):=by simp[aD,eP,hr]
 have d1:w.frozen? ⟨bb,q,none⟩=false:=by
  simp[aG,eP];omega
 have HK:=Hd (λV:ag=>LX (w:=V) wh ub.size (by omega) (by omega) (by omega));have q0:(0:Int)<=q:=by omega
 have q1:(q:Int)<ub.size:=by omega
 have HA:=Hd ha;have HN:Hid (∀p'∈[(lb,lookO s),(pb,postO p ub)],p'.1≠bb):=Hd (λp' Bn=>by
  simp at Bn;rcases Bn with rfl|rfl
  ·exact tY
  ·exact mg)
 have HC:=Hd (aw hc pI);rw[<-hq]at d0 d1 q0 q1;have HQ:=Hd hq;clear h eP hr hrl hq;obtain⟨h0,h1,h2,h3⟩:=hx;obtain⟨x,rfl⟩:=qb h0;obtain⟨x,rfl⟩:=qb (x:=x) (j:=1) h1;obtain⟨x,rfl⟩:=qb (x:=x) (j:=2) h2;obtain⟨x,rfl⟩:=qb (x:=x) (j:=3) h3;obtain⟨x,rfl⟩:=qb (x:=x) (j:=9) h9;obtain⟨x,rfl⟩:=qb (x:=x) (j:=10) iN;obtain⟨x,rfl⟩:=qb (x:=x) (j:=11) nP;clear h0 h1 h2 h3 h9 iN nP;rw[uI];unfold zR5 zT zC zB;simp only[Tryz.f48,au,cS,cF,cT,upd,ai,if_true,if_false];go_wp2_with (go_at_call 47;refine(HK.o _).mono ?_;rintro e w1 ⟨rfl,rfl⟩)
 have hx8:bits BinOp.xor IntKind.u8 (a:Int) (c:Int)=((a^^^c:Nat):Int):=u8_xor_nat a c (by have:=HA.o;omega) HC.1;have dY:a^^^c<256:=Nat.xor_lt_two_pow (n:=8) Qq HC.1;have hm:((a^^^c:Nat):Int)%256=((a^^^c:Nat):Int):=by omega
 rw[hx8];refine jh rfl ⟨((a^^^c:Nat):Int),⟨⟨rfl,rfl,rfl,rfl⟩,rfl,rfl,rfl,λzI=>?_⟩,?_⟩
 ·intro e;have e2:=congrArg UInt8.toNat e;rw[hm,HA.o,Int.toNat_natCast]at e2;have e5:(bk (a^^^c)).toNat=a^^^c:=by
   rw[UInt8.toNat_ofNat'];exact Nat.mod_eq_of_lt dY
  have e3:a^^^c=a:=e5.symm.trans e2;have e4:a^^^(a^^^c)=a^^^a:=by rw[e3]
  rw[<-Nat.xor_assoc,Nat.xor_self,Nat.zero_xor]at e4;exact HC.2 e4
 ·rw[hm,<-HQ.o];exact H.set _ HN.o
end
theorem QX:∃i,prog.info? 96=some i/\i.zero=some (.agg #[.int .i64 0,.bool false,.string ⟨#[]⟩])/\i.size=3/\i.bytes=32:=by
 have h:(prog.info? 96).map (λi=>(i.zero,i.size,i.bytes))=some (some (.agg #[.int .i64 0,.bool false,.string ⟨#[]⟩]),3,32):=by kernel_rfl
 obtain⟨i,h1,h2⟩:=bq.1 h;injection h2 with h2 h3;injection h3 with h3 h4;exact⟨i,h1,h2,h3,h4⟩
section
variable {w w':ag} {x:Nat->ae} {W i c wh cl pb lb bb:Nat} {s s':St} {k:KW} {p:Pst} {ub ab:ByteArray} {bv:ae} {o:Obj}
theorem jf4 (hx:FrB W i c wh x) (h9:x 9=.pointer (some ⟨pb,0,none⟩)) (iN:x 10=.pointer (some ⟨lb,0,none⟩)) {sa:Option Addr} {cap:Nat} (nP:x 11=.slice sa n cap) (h:zh cl W s k [(bb,o),(lb,lookO s),(pb,postO p ub)] w):
  zR6.wp prog (JnL 145 λx' w'=>(FrB W i c wh x'/\x' 9=.pointer (some ⟨pb,0,none⟩)/\x' 10=.pointer (some ⟨lb,0,none⟩)/\x' 11=.slice sa n cap/\x' 51=.bool p.rep)/\zh cl W s k [(bb,o),(lb,lookO s),(pb,postO p ub)] w') ⟨lay 145 x,[]⟩ w:=by
 have H:=Hd h;obtain⟨d0,d1,d2⟩:=h.post (.tail _ (.tail _ (.head _)));clear h;obtain⟨h0,h1,h2,h3⟩:=hx;obtain⟨x,rfl⟩:=qb h0;obtain⟨x,rfl⟩:=qb (x:=x) (j:=1) h1;obtain⟨x,rfl⟩:=qb (x:=x) (j:=2) h2;obtain⟨x,rfl⟩:=qb (x:=x) (j:=3) h3;obtain⟨x,rfl⟩:=qb (x:=x) (j:=9) h9;obtain⟨x,rfl⟩:=qb (x:=x) (j:=10) iN;obtain⟨x,rfl⟩:=qb (x:=x) (j:=11) nP;clear h0 h1 h2 h3 h9 iN nP;rw[uI];unfold zR6 zT6 zT zC zB;simp only[Tryz.f48,au,cS,cF,cT,upd,ai,if_true,if_false];go_wp2;exact jh rfl ⟨⟨⟨rfl,rfl,rfl,rfl⟩,rfl,rfl,rfl,rfl⟩,H.o⟩
theorem jar (hx:FrB W i c wh x) (BD:x 14=.int .i64 fr) (H6:x 15=.string ab) (uZ:x 16=.int .i64 0):
  Kh.wp prog (JnL 145 λx' w'=>(FrB W i c wh x'/\x' 14=.int .i64 fr/\x' 15=.string ab/\x' 16=.int .i64 0/\x' 130=.bool (!ab.toList.isEmpty))/\Same w w') ⟨lay 145 x,[]⟩ w:=by
 obtain⟨h0,h1,h2,h3⟩:=hx;obtain⟨x,rfl⟩:=qb h0;obtain⟨x,rfl⟩:=qb (x:=x) (j:=1) h1;obtain⟨x,rfl⟩:=qb (x:=x) (j:=2) h2;obtain⟨x,rfl⟩:=qb (x:=x) (j:=3) h3;obtain⟨x,rfl⟩:=qb (x:=x) (j:=14) BD;obtain⟨x,rfl⟩:=qb (x:=x) (j:=15) H6;obtain⟨x,rfl⟩:=qb (x:=x) (j:=16) uZ;clear h0 h1 h2 h3 BD H6 uZ;rw[uI];unfold Kh Am zE zD zC zB;simp only[Tryz.f48,au,cS,cF,cT,upd,ai,if_true,if_false];cases gJ:ab.toList.isEmpty
 ·go_wp2;exact jh rfl ⟨⟨⟨rfl,rfl,rfl,rfl⟩,rfl,rfl,rfl,rfl⟩,Same.refl _⟩
 ·go_wp2;exact jh rfl ⟨⟨⟨rfl,rfl,rfl,rfl⟩,rfl,rfl,rfl,rfl⟩,Same.refl _⟩
theorem jat (hx:FrB W i c wh x) (BD:x 14=.int .i64 fr) (H6:x 15=.string ab) (uZ:x 16=.int .i64 0) (h:y9 w W s k) (hl:k.way.length<=100000):
  Kg.wp prog (JnL 145 λx' w'=>(FrB W i c wh x'/\x' 16=.int .i64 0)/\y9 w' W s {k with way:=k.way++[⟨fr,true,ab.data.toList⟩]}) ⟨lay 145 x,[]⟩ w:=by
 obtain⟨F,A,lv,wv,h⟩:=h;obtain⟨sa,n',cp,e,_⟩:=Gg h.wy;subst e;have c6:=(h.cells 6 (.slice sa n' cp) rfl).1;have H:=Hd h;have HL:=Hd hl;obtain⟨ci,i1,i2,i3,i4⟩:=QX;have HI:=Hd (aw i1 (aw i2 (aw i3 i4)));clear h i1 i2 i3 i4 hl;obtain⟨h0,h1,h2,h3⟩:=hx;obtain⟨x,rfl⟩:=qb h0;obtain⟨x,rfl⟩:=qb (x:=x) (j:=1) h1;obtain⟨x,rfl⟩:=qb (x:=x) (j:=2) h2;obtain⟨x,rfl⟩:=qb (x:=x) (j:=3) h3;obtain⟨x,rfl⟩:=qb (x:=x) (j:=14) BD;obtain⟨x,rfl⟩:=qb (x:=x) (j:=15) H6;obtain⟨x,rfl⟩:=qb (x:=x) (j:=16) uZ;clear h0 h1 h2 h3 BD H6 uZ;rw[uI];unfold Kg Am zE zD zC zB;simp only[Tryz.f48,au,cS,cF,cT,upd,ai,if_true,if_false];go_wp2_with (at_builtin;refine wpList_append_lies _ rfl (.tmp 135) (.tmp 139) 49 rfl 0 96 ci _ 3 32 underlying49 HI.1 HI.2.1 HI.2.2.1 HI.2.2.2 rfl (by decide) (.slice sa n' cp) k.way.length (xk k.way) rfl (jd H.wy λb hb=>heap_alloc_old w _ (H.wy.lt b hb).2) ⟨w.heap.size,0,none⟩ 1 1 [.int .i64 fr,.bool true,.string ab] rfl rfl (cells3 w _ _ _ _) (by intro u hu;simp at hu;rcases hu with rfl|rfl|rfl<;>rfl) (by decide) (by have:=HL.o;unfold bu;omega) (by have:=HL.o;omega) (xzl _) _ rfl ?_;intro gb Qp w3 hr hg jG dY;rw[<-qC ab]at hr;have H3:=Hd (H.appW (p:=⟨fr,true,ab.data.toList⟩) ((zk _ _).alloc (ji _) _) hg hr jG);obtain⟨d3,e3,_⟩:=H3.o;clear hr hg jG dY)
 exact jh rfl ⟨⟨⟨rfl,rfl,rfl,rfl⟩,rfl⟩,H3.2.2⟩
theorem QM (hx:FrB W i c wh x) (uZ:x 16=.int .i64 0):
  Ke.wp prog (JnL 145 λx' w'=>x' 8=.bool true/\Same w w') ⟨lay 145 x,[]⟩ w:=by
 obtain⟨h0,h1,h2,h3⟩:=hx;obtain⟨x,rfl⟩:=qb h0;obtain⟨x,rfl⟩:=qb (x:=x) (j:=1) h1;obtain⟨x,rfl⟩:=qb (x:=x) (j:=2) h2;obtain⟨x,rfl⟩:=qb (x:=x) (j:=3) h3;obtain⟨x,rfl⟩:=qb (x:=x) (j:=16) uZ;clear h0 h1 h2 h3 uZ;rw[uI];unfold Ke Am zE zD zC zB;simp only[Tryz.f48,au,cS,cF,cT,upd,ai,if_true,if_false];go_wp2;exact jh rfl ⟨rfl,Same.refl _⟩
end
abbrev fBr:bD:=48
def bBr:aU:=base fBr
theorem jkj:zB=.seq zR0 (.seq zR1 zC):=by kernel_rfl
theorem jkk:zC=.seq (.seq zR2 (.cond (.tmp 31) zT .skip)) zD:=by kernel_rfl
theorem jkn:zT=.seq zR3 (.seq zR4 (.seq zR5 zT6)):=by kernel_rfl
theorem jf6:zT6=.seq (.seq zR6 (.cond (.tmp 51) (.seq (.region 7 bR7 true) .ret) .skip)) (.seq (.region 8 bR8 true) (.seq (.region 9 bR9 true) .ret)):=by kernel_rfl
theorem jkl:zD=.seq (.seq Kj (.cond (.tmp 99) (.seq (.region 11 GK true) .ret) .skip)) zE:=by kernel_rfl
theorem jkm:zE=.seq Ki (.seq (.region 13 Ec true) Am):=by kernel_rfl
theorem jal:Am=.seq (.seq Kh (.cond (.tmp 130) Kg .skip)) (.seq Ke .ret):=by kernel_rfl
section ok
theorem jei:codeOk XG.P XG.P fb true zR0=true:=by kernel_rfl
theorem jej:codeOk XG.P XG.P fb true zR1=true:=by kernel_rfl
theorem jek:codeOk XG.P XG.P fb true zR2=true:=by kernel_rfl
theorem jel:codeOk XG.P XG.P fb true zR3=true:=by kernel_rfl
theorem jem:codeOk XG.P XG.P fb true zR4=true:=by kernel_rfl
theorem jen:codeOk XG.P XG.P fb true zR5=true:=by kernel_rfl
theorem jeo:codeOk XG.P XG.P fb true zR6=true:=by kernel_rfl
theorem jep:codeOk XG.P XG.P fb true (.region 7 bR7 true)=true:=by kernel_rfl
theorem jeq:codeOk XG.P XG.P fb true (.region 8 bR8 true)=true:=by kernel_rfl
theorem jer:codeOk XG.P XG.P fb true (.region 9 bR9 true)=true:=by kernel_rfl
theorem q82:codeOk XG.P XG.P fb true Kj=true:=by kernel_rfl
theorem q83:codeOk XG.P XG.P fb true (.region 11 GK true)=true:=by kernel_rfl
theorem q84:codeOk XG.P XG.P fb true Ki=true:=by kernel_rfl
theorem q85:codeOk XG.P XG.P fb true (.region 13 Ec true)=true:=by kernel_rfl
theorem q86:codeOk XG.P XG.P fb true Kh=true:=by kernel_rfl
theorem q87:codeOk XG.P XG.P fb true Kg=true:=by kernel_rfl
theorem QZ:codeOk XG.P XG.P fb true Ke=true:=by kernel_rfl
end ok
section
variable {N:Blocks} {kv:List ae} {ks eT:List aU} {Z:aU->ag->Prop} {b:aU} {K:List Item} {x:Nat->ae} {w:ag} {n:Nat}
theorem ql.qU {c:Code} {J:(Nat->ae)->ag->Prop} (hJ:∀x w wc,Same w wc->J x w->J x wc) (jB:blG b.fn=false) (fI:codeOk XG.P XG.P fb true c=true) (hp:∀wc,Same w wc->c.wp prog (JnL n J) ⟨lay n x,[]⟩ wc)
  (nx:∀x' w',J x' w'->ql N kv ks (b.at ⟨lay n x',[]⟩ K) w' eT Z):ql N kv ks (b.at ⟨lay n x,[]⟩ (.code c::K)) w eT Z:=
 ql.jl (R:=J) jB fI hJ hp nx
end
theorem J6 (a b c d:ae) (j:Nat) (v:ae) (h:#[a,b,c,d][j]?=some v):(#[a,b,c,d]++az 141 aV).getD j aV=v:=by
 have hj:j<4:=(yx h).1;rw[av,aI (by simpa using hj),h];rfl
theorem qrc {a b c d:ae}:Frame.enter XG.P fBr #[a,b,c,d] .normal=bBr.at ⟨lay 145 (λi=>(#[a,b,c,d]++az 141 aV).getD i aV),[]⟩ [.code zB]:=by
 show Frame.enter prog fBr _ .normal=_;rw[enter_at _ func48 (show Tryz.f48.body=some zB from rfl)];have hn:Tryz.f48.ntmps=145:=rfl;rw[hn,AX (by simp)];rfl
section
variable {N:Blocks} {kv:List ae} {ks:List aU} {w:ag} {W B i c wh:Nat} {s:St} {k:KW} {G:Nat->GH} {p:Pst}
def nA (W:Nat) (k:KW) (B:Nat) (v:ae) (w':ag):Prop:=v=.bool true/\∃s' k' G',y9 w' W s' k'/\SI s' G' k' (B+2)/\k'.w0=k.w0
theorem nA.same {v:ae} {w:ag} (s:Same w w') (h:nA W k B v w):nA W k B v w':=by
 obtain⟨e,s',k',G',h1,h2,h3⟩:=h;exact⟨e,s',k',G',h1.idle (But.same' s),h2,h3⟩
theorem FU (h8:x 8=.bool true) (h:nA W k B (.bool true) w):ql N kv ks (bBr.at ⟨lay 145 x,[]⟩ (.code .ret::K)) w ks (Ret fBr (nA W k B)):=by
 refine ql.BX (c:=.ret) (n:=145) (r:=8) (V:=λv=>v=.bool true) rfl rfl rfl func48 rfl rfl (λv e ρ=>by subst e;exact .bool true) (λv w1 wc s q=>q.same s) λwc sm=>?_;refine wp_ret ?_;have e:(lay 145 x).getD 8 aV=.bool true:=(Gc (by decide)).trans h8;exact⟨rfl,e,by rw[e];exact h.same sm⟩
theorem YS {l:Bs} (hq:q<l.length) (a:UInt8):l=l.take q++l[q]::l.drop (q+1)/\l.set q a=l.take q++a::l.drop (q+1):=by
 constructor
 ·rw[List.getElem_cons_drop,ay]
 ·rw[List.set_eq_take_append_cons_drop,if_pos hq]
theorem SI.post (S:SI s G k B) (hB:B<=9000) (hp:p∈k.way):1<=p.s.length/\p.s.length<=57/\(p.rep=false->9<=p.s.length)/\∃f:Fr,p.s=f.bytes:=by
 obtain⟨_,h1,h2⟩:=S.way p hp;cases hr:p.rep with
 |true=>
  have:=(h1 hr).len S.K (by omega);exact⟨this.1,this.2,λe=>(by cases e),(h1 hr).is⟩
 |false=>
  have:=(h2 hr).len S.K (by omega);exact⟨by omega,this.2,λ_=>this.1,(h2 hr).is⟩
theorem q5w (S:SI s G k B) (hB:B<=9000) (hp:p∈k.way) (oo:ub.data.toList=p.s) (hx:FrB W i c wh x) (h9:x 9=.pointer (some ⟨pb,0,none⟩)) (h:zh cl W s k [(pb,postO p ub)] w) (hc:c<256) (pI:c≠0) (Kq:wh<=255):
  ql N kv ks (bBr.at ⟨lay 145 x,[]⟩ (.code zT::K)) w ks (Ret fBr (nA W k B)):=by
 obtain⟨l1,l2,_,f,hf⟩:=S.post hB hp;have lu:=I8 oo;have hh:=(S.way p hp).1;rw[jkn];refine ql.seq (ql.qU (n:=145) (J:=λx' w'=>∃lb,(FrB W i c wh x'/\x' 9=.pointer (some ⟨pb,0,none⟩)/\x' 10=.pointer (some ⟨lb,0,none⟩))/\zh cl W s k [(lb,lookO s),(pb,postO p ub)] w') (λx w wc s ⟨lb,q1,q2⟩=>⟨lb,q1,q2.idle (But.same' s)⟩) rfl jel (λwc sm=>jf1 hx h9 (h.idle (But.same' sm))) ?_);rintro x2 w2 ⟨lb,⟨gX,e9,Ia⟩,h2⟩;refine ql.seq (ql.qU (n:=145) (J:=λx' w'=>∃bb cap z,(FrB W i c wh x'/\x' 9=.pointer (some ⟨pb,0,none⟩)/\x' 10=.pointer (some ⟨lb,0,none⟩)/\x' 11=.slice (some ⟨bb,0,none⟩) ub.size cap/\z=(bytesRow ub cap).size/\lb≠bb/\pb≠bb)/\zh cl W s k [(bb,IJ ub cap z),(lb,lookO s),(pb,postO p ub)] w') (λx w wc s ⟨bb,cap,z,q1,q2⟩=>⟨bb,cap,z,q1,q2.idle (But.same' s)⟩) rfl jem (λwc sm=>jf2 gX e9 Ia (h2.idle (But.same' sm))) ?_);rintro x3 w3 ⟨bb,cap,z,⟨lJ,f9,f10,f11,fz,flb,fpb⟩,h3⟩;obtain⟨q,hq⟩:∃q,wh%ub.size=q:=⟨_,rfl⟩
 have zI:q<ub.size:=by rw[<-hq];exact Nat.mod_lt _ (by omega)
 have Vr:q<ub.data.toList.length:=by simpa using zI
 refine ql.seq (ql.qU (n:=145) (J:=λx' w'=>∃v:Int,(FrB W i c wh x'/\x' 9=.pointer (some ⟨pb,0,none⟩)/\x' 10=.pointer (some ⟨lb,0,none⟩)/\x' 11=.slice (some ⟨bb,0,none⟩) ub.size cap/\∀zI:q<ub.data.toList.length,bk (v%256).toNat≠ub.data.toList[q]'(zI))/\zh cl W s k [(bb,.cells ((bytesRow ub cap).setIfInBounds q (.int .u8 (v%256))) 5 (z,z+1)),(lb,lookO s),(pb,postO p ub)] w') (λx w wc s ⟨v,q1,q2⟩=>⟨v,q1,q2.idle (But.same' s)⟩) rfl jen (λwc sm=>jf3 lJ f9 f10 f11 fz flb fpb (h3.idle (But.same' sm)) (by omega) (by omega) hq Kq hc pI) ?_);rintro x4 w4 ⟨v,⟨tT,g9,g10,g11,gne⟩,h4⟩;have eB:=gne Vr;obtain⟨u,hu⟩:∃u:ByteArray,u=⟨(turned ub q v).toArray⟩:=⟨_,rfl⟩
 have hul:u.data.toList=turned ub q v:=by rw[hu]
 have hus:u.size=ub.size:=by rw[hu];exact qsi ub q v
 have Wi:jM u.data.toList=none:=by
  rw[hul];unfold turned;obtain⟨e1,e2⟩:=YS Vr (bk (v%256).toNat);rw[e2];refine qnj (f:=f) ?_ (Ne.symm eB);rw[<-hf,<-oo];exact e1
 have vZ:∀V,zh cl W s k [(bb,.cells ((bytesRow ub cap).setIfInBounds q (.int .u8 (v%256))) 5 (z,z+1)),(lb,lookO s),(pb,postO p ub)] V->(convert 139 9 (.slice (some ⟨bb,0,none⟩) ub.size cap)).run prog V=.ok (.string u) V:=λV hV=>by
  rw[hu];exact qq0 (hV.at (.head _))
 generalize (bytesRow ub cap).setIfInBounds q (.int .u8 (v%256))=cur at h4 vZ;have edge:¬((p.host:Int)<0\/(s.hosts:Int)<=p.host):=by rw[S.K.p.hosts];omega
 have out:∀{w':ag} {fx:List (Nat×Obj)},zh cl W s k fx w'->nA W k B (.bool true) w':=λh=>⟨rfl,s,k,G,h.in,S.up (by omega),rfl⟩
 rw[jf6];refine ql.seq (ql.seq (ql.qU (n:=145) (J:=λx' w'=>(FrB W i c wh x'/\x' 9=.pointer (some ⟨pb,0,none⟩)/\x' 10=.pointer (some ⟨lb,0,none⟩)/\x' 11=.slice (some ⟨bb,0,none⟩) ub.size cap/\x' 51=.bool p.rep)/\zh cl W s k [(bb,.cells cur 5 (z,z+1)),(lb,lookO s),(pb,postO p ub)] w') (λx w wc s ⟨q1,q2⟩=>⟨q1,q2.idle (But.same' s)⟩) rfl jeo (λwc sm=>jf4 tT g9 g10 g11 (h4.idle (But.same' sm))) ?_));rintro x5 w5 ⟨⟨uP,k9,jE,nZ,k51⟩,h5⟩;refine ql.cond (t:=p.rep) (iV (by decide) k51) ?_;cases hr:p.rep with
 |true=>
  refine ql.seq ?_;refine ql.qU (n:=145) (J:=λy w'=>(y 0=.pointer (some ⟨W,0,none⟩)/\y 9=.pointer (some ⟨pb,0,none⟩)/\y 10=.pointer (some ⟨lb,0,none⟩)/\y 11=.slice (some ⟨bb,0,none⟩) ub.size cap/\y 8=.bool true)/\zh cl W s k [(bb,.cells cur 5 (z,z+1)),(lb,lookO s),(pb,postO p ub)] w') (λx w wc s ⟨q1,q2⟩=>⟨q1,q2.idle (But.same' s)⟩) rfl jep (λwc sm=>jci (p:=p) (ub:=ub) (u:=u) (.tail _ (.tail _ (.head _))) (.tail _ (.head _)) vZ (λV hV=>hV.call λF A e hP=>?_) uP.w k9 jE nZ (h5.idle (But.same' sm))) ?_
  ·have gN:=Sd hP (S.K.rp (by omega)) p.host u (by omega);unfold rpE rpS at gN;rw[if_neg edge,if_neg edge,Wi,e]at gN;exact gN
  ·rintro x6 w6 ⟨⟨_,_,_,_,e8⟩,h6⟩;exact FU e8 (out h6)
 |false=>
  refine ql.skip (ql.seq ?_);refine ql.qU (n:=145) (J:=λy w'=>(y 0=.pointer (some ⟨W,0,none⟩)/\y 9=.pointer (some ⟨pb,0,none⟩)/\y 10=.pointer (some ⟨lb,0,none⟩)/\y 11=.slice (some ⟨bb,0,none⟩) ub.size cap/\y 12=.string ⟨#[]⟩/\y 13=.int .i64 0)/\zh cl W s k [(bb,.cells cur 5 (z,z+1)),(lb,lookO s),(pb,postO p ub)] w') (λx w wc s ⟨q1,q2⟩=>⟨q1,q2.idle (But.same' s)⟩) rfl jeq (λwc sm=>jcj (p:=p) (ub:=ub) (u:=u) (.tail _ (.tail _ (.head _))) (.tail _ (.head _)) vZ (λV hV=>hV.call λF A e hP=>?_) uP.w k9 jE nZ (h5.idle (But.same' sm))) ?_
  ·have gN:=TL hP (by rw[S.K.p.hosts];decide) (S.K.sgl (by omega)) p.host u (by omega) (by omega);unfold dlE dlR at gN;rw[if_neg edge,if_neg edge,Wi,e]at gN;exact gN
  ·rintro x6 w6 ⟨⟨e0,_,Ia,_,KX,e13⟩,h6⟩;refine ql.seq ?_;refine ql.qU (n:=145) (J:=λy w'=>(y 0=.pointer (some ⟨W,0,none⟩)/\y 10=.pointer (some ⟨lb,0,none⟩)/\y 12=.string ⟨#[]⟩/\y 13=.int .i64 0/\y 8=.bool true)/\zh cl W s k [(bb,.cells cur 5 (z,z+1)),(lb,lookO s),(pb,postO p ub)] w') (λx w wc s ⟨q1,q2⟩=>⟨q1,q2.idle (But.same' s)⟩) rfl jer (λwc sm=>jck (.tail _ (.head _)) e0 Ia KX e13 (h6.idle (But.same' sm))) ?_;rintro x7 w7 ⟨⟨_,_,_,_,e8⟩,h7⟩;exact FU e8 (out h7)
theorem q5v (S:SI s G k B) (hB:B<=9000) (hp:p∈k.way) (oo:ub.data.toList=p.s) (hx:FrB W i c wh x) (h9:x 9=.pointer (some ⟨pb,0,none⟩)) (h:zh cl W s k [(pb,postO p ub)] w):
  ql N kv ks (bBr.at ⟨lay 145 x,[]⟩ (.code zD::K)) w ks (Ret fBr (nA W k B)):=by
 obtain⟨l1,l2,l3,_⟩:=S.post hB hp;have lu:=I8 oo;rw[jkl];refine ql.seq (ql.seq (ql.qU (n:=145) (J:=λx' w'=>(FrB W i c wh x'/\x' 9=.pointer (some ⟨pb,0,none⟩)/\x' 99=.bool p.rep)/\zh cl W s k [(pb,postO p ub)] w') (λx w wc s ⟨q1,q2⟩=>⟨q1,q2.idle (But.same' s)⟩) rfl q82 (λwc sm=>jan hx h9 (h.idle (But.same' sm))) ?_));rintro x2 w2 ⟨⟨gX,e9,e99⟩,h2⟩;refine ql.cond (t:=p.rep) (iV (by decide) e99) ?_;cases hr:p.rep with
 |true=>
  obtain⟨r0,G',S'⟩:=S.Np hB hp hr;refine ql.seq ?_;refine ql.qU (n:=145) (J:=λy w'=>(y 0=.pointer (some ⟨W,0,none⟩)/\y 9=.pointer (some ⟨pb,0,none⟩)/\y 8=.bool true)/\zh cl W (rpS s p.host p.s) k [(pb,postO p ub)] w') (λx w wc s ⟨q1,q2⟩=>⟨q1,q2.idle (But.same' s)⟩) rfl q83 (λwc sm=>q5o (p:=p) (ub:=ub) (.head _) (λV hV=>hV.call λF A e hP=>?_) gX.w e9 (h2.idle (But.same' sm))) ?_
  ·have gN:=Sd hP (S.K.rp (by omega)) p.host ub (by omega);rw[r0,oo,e]at gN;exact gN
  ·rintro x6 w6 ⟨⟨_,_,e8⟩,h6⟩;exact FU e8 ⟨rfl,_,k,G',h6.in,S'.up (by omega),rfl⟩
 |false=>
  have l9:=l3 hr;refine ql.skip ?_;rw[jkm];have oq:1<ub.size:=by omega
  obtain⟨n,hn⟩:∃n,(ub[1]'(oq)).toNat%4=n:=⟨_,rfl⟩
  have sD:n<4:=by rw[<-hn];exact Nat.mod_lt _ (by decide)
  have ho:=S.K.p.ow n sD;refine ql.seq (ql.qU (n:=145) (J:=λx' w'=>(FrB W i c wh x'/\x' 9=.pointer (some ⟨pb,0,none⟩)/\x' 14=.int .i64 (s.ow n))/\zh cl W s k [(pb,postO p ub)] w') (λx w wc s ⟨q1,q2⟩=>⟨q1,q2.idle (But.same' s)⟩) rfl q84 (λwc sm=>jap gX e9 (h2.idle (But.same' sm)) n sD oq hn ho) ?_);rintro x3 w3 ⟨⟨lJ,f9,f14⟩,h3⟩;obtain⟨d0,S1,S2⟩:=S.Ma hB hp hr ho;obtain⟨ab,gG⟩:=qp (dlR s p.host p.s).1;have eab:sv (dlR s p.host p.s).1=.string ab:=jf gG;have keep:∀wc,Same w3 wc->Code.wp prog (.region 13 Ec true) (JnL 145 λy w'=>(FrB W i c wh y/\y 14=.int .i64 (s.ow n)/\y 15=.string ab/\y 16=.int .i64 0)/\zh cl W (dlR s p.host p.s).2 k [(pb,postO p ub)] w') ⟨lay 145 x3,[]⟩ wc:=λwc sm=>by
   refine bP (λ_ _ _=>JnL.mono λy w' q=>?_) (q5p (p:=p) (ub:=ub) (ab:=ab) (fr:=s.ow n) (s':=(dlR s p.host p.s).2) (.head _) (λV hV=>hV.call λF A e hP=>?_) lJ.w f9 f14 lJ.i lJ.c lJ.h (h3.idle (But.same' sm)))
   ·exact⟨⟨⟨q.1.1,q.1.2.2.2.1,q.1.2.2.2.2.1,q.1.2.2.2.2.2.1⟩,q.1.2.2.1,q.1.2.2.2.2.2.2.1,q.1.2.2.2.2.2.2.2⟩,q.2⟩
   ·have gN:=TL hP (by rw[S.K.p.hosts];decide) (S.K.sgl (by omega)) p.host ub (by omega) (by have:=(S.way p hp).1;omega);rw[d0,oo,eab,e]at gN;exact gN
  refine ql.seq (ql.qU (n:=145) (J:=λy w'=>(FrB W i c wh y/\y 14=.int .i64 (s.ow n)/\y 15=.string ab/\y 16=.int .i64 0)/\zh cl W (dlR s p.host p.s).2 k [(pb,postO p ub)] w') (λx w wc s ⟨q1,q2⟩=>⟨q1,q2.idle (But.same' s)⟩) rfl q85 keep ?_);rintro x4 w4 ⟨⟨tT,g14,g15,g16⟩,h4⟩;rw[jal];refine ql.seq (ql.seq (ql.jZ (n:=145) (P:=λx'=>FrB W i c wh x'/\x' 14=.int .i64 (s.ow n)/\x' 15=.string ab/\x' 16=.int .i64 0/\x' 130=.bool (!ab.toList.isEmpty)) rfl q86 (λwc=>jar tT g14 g15 g16) ?_));rintro x5 w5 ⟨uP,i14,i15,i16,i130⟩ s5;have h5:=h4.idle (But.same' s5);have hle:=S.wl;cases gJ:ab.toList.isEmpty with
  |false=>
   rw[gJ]at i130;have eB:(dlR s p.host p.s).1≠[]:=λe=>by
    rw[ByteArray.toList_eq,gG,e]at gJ;cases gJ
   refine ql.cond (t:=true) (iV (by decide) i130) ?_;refine ql.zF (n:=145) (P:=λx'=>FrB W i c wh x'/\x' 16=.int .i64 0) (W:=W) (s:=(dlR s p.host p.s).2) (k:={k with way:=k.way++[⟨s.ow n,true,(dlR s p.host p.s).1⟩]}) rfl q87 (λwc sm=>by rw[<-gG];exact jat uP i14 i15 i16 (h5.in.idle (But.same' sm)) (by omega)) ?_;rintro x6 w6 ⟨Bf,j16⟩ h6;refine ql.seq (ql.jZ (n:=145) (P:=λx'=>x' 8=.bool true) rfl QZ (λwc=>QM Bf j16) ?_);intro x7 w7 e8 s7;exact FU e8 ⟨rfl,_,_,G,h6.idle (But.same' s7),S2 eB,rfl⟩
  |true=>
   rw[gJ]at i130;refine ql.cond (t:=false) (iV (by decide) i130) (ql.skip ?_);refine ql.seq (ql.jZ (n:=145) (P:=λx'=>x' 8=.bool true) rfl QZ (λwc=>QM uP i16) ?_);intro x7 w7 e8 s7;exact FU e8 ⟨rfl,_,k,G,h5.in.idle (But.same' s7),S1.up (by omega),rfl⟩
theorem q5x (h:y9 w W s k) (S:SI s G k B) (hB:B<=9000) (hp:k.way[i]?=some p) (hc:c<256) (Kq:wh<=255):uJ N kv fBr #[.pointer (some ⟨W,0,none⟩),.int .i64 i,.int .u8 c,.int .i64 wh] w (nA W k B):=by
 refine Ee.calls rfl (λv w1 w2 sm q=>q.same sm) λcs=>?_;rw[qrc,jkj];obtain⟨cl,h⟩:=h.br;have Oe:=List.mem_of_getElem? hp;obtain⟨ub,oo⟩:=qp p.s;have OV:sv p.s=.string ub:=jf oo;obtain⟨l1,_⟩:=S.post hB Oe;have lu:=I8 oo;have hle:=S.wl;generalize hx:(λj=>(#[(.pointer (some ⟨W,0,none⟩):ae),.int .i64 i,.int .u8 c,.int .i64 wh]++az 141 aV).getD j aV)=x;have x0:FrB W i c wh x:=by subst hx;exact⟨J6 _ _ _ _ 0 _ rfl,J6 _ _ _ _ 1 _ rfl,J6 _ _ _ _ 2 _ rfl,J6 _ _ _ _ 3 _ rfl⟩
 clear hx;refine ql.seq (ql.jZ (n:=145) (P:=FrB W i c wh) rfl jei (λwc=>jfy x0) ?_);intro x1 w1 mX s1;have h1:=h.idle (But.same' s1);refine ql.seq (ql.qU (n:=145) (J:=λx' w'=>∃pb,(FrB W i c wh x'/\x' 9=.pointer (some ⟨pb,0,none⟩))/\zh cl W s k [(pb,postO p ub)] w') (λx w wc s ⟨pb,q1,q2⟩=>⟨pb,q1,q2.idle (But.same' s)⟩) rfl jej (λwc sm=>jfz mX (h1.idle (But.same' sm)) hp OV (by omega)) ?_);rintro x2 w2 ⟨pb,⟨gX,e9⟩,h2⟩;rw[jkk];refine ql.seq (ql.seq (ql.qU (n:=145) (J:=λx' w'=>(FrB W i c wh x'/\x' 9=.pointer (some ⟨pb,0,none⟩)/\x' 31=.bool (decide (c≠0)))/\zh cl W s k [(pb,postO p ub)] w') (λx w wc s ⟨q1,q2⟩=>⟨q1,q2.idle (But.same' s)⟩) rfl jek (λwc sm=>jf0 gX e9 (h2.idle (But.same' sm)) (by omega)) ?_));rintro x3 w3 ⟨⟨lJ,f9,f31⟩,h3⟩;by_cases pI:c=0
 ·rw[zu (λh=>h pI)]at f31;refine ql.cond (t:=false) (iV (by decide) f31) (ql.skip ?_);exact q5v S hB Oe oo lJ f9 h3
 ·rw[xdt pI]at f31;refine ql.cond (t:=true) (iV (by decide) f31) ?_;exact q5w S hB Oe oo lJ f9 h3 hc pI Kq
end
section
variable {N:Blocks} {kv:List ae} {cs eT:List aU} {w:ag} {Z:aU->ag->Prop} {b:aU} {a:Act} {k:List Item}
theorem ql.draw {id:Nat} {ops:Array Oper} (n:∀tt,ql N kv cs (b.at a (.inRegion ops (Region.schedule (XG.P.follows .mixedOrders) ops tt)::k)) w eT Z):ql N kv cs (b.at a (.code (.region id ops true)::k)) w eT Z:=λwc s gs sl t SB ρ q hc hN hK=>by
 have st:∀w1:ag,stepG XG.P true (G (b.at a (.code (.region id ops true)::k)) cs) w1=.go (G (b.at a (.inRegion ops (Region.schedule (XG.P.follows .mixedOrders) ops (w1.tape w1.drawn (.order b.fn id)))::k)) cs) {w1 with drawn:=w1.drawn+1} #[]:=λw1=>stepG_region_draw;obtain⟨N1,lK,a1,d,w1,es,jC,t1,q1,hr,hgo,hz,o8,uf,tZ,_⟩:=CV (P:=XG.P) (SB:=SB) (sl:=sl) hc.g0 rfl hc.leavers hc.past λd=>⟨_,_,_,st _,ji _,by simp⟩
 rw[st]at hgo;injection hgo with e1 e2 e3;subst e1 e2 e3;generalize (wc.at d).tape (wc.at d).drawn (.order b.fn id)=tt at o8;have gQ:Co XG fb blG SB ρ lK (b.at a (.inRegion ops (Region.schedule (XG.P.follows .mixedOrders) ops tt)::k)) cs {wc.at d with drawn:=(wc.at d).drawn+1} t1 q1:=⟨o8,uf,tZ,⟨hc.foot.apart,hc.foot.low,hc.foot.own,hc.foot.foot⟩,hc.fr,hc.cs,⟨hc.wr.fn,hc.wr.inj,hc.wr.heap,λ_ _=>rfl,hc.wr.sh⟩,hc.nb⟩
 obtain⟨rE,iJ,w2,qJ,t2,Aa,ρ2,q2,h4,h5,h6⟩:=n tt {wc.at d with drawn:=(wc.at d).drawn+1} (s.trans ⟨rfl,rfl,rfl⟩) lK jC t1 SB ρ q1 gQ hN hK;exact⟨rE,iJ,w2,qJ,t2,Aa,ρ2,q2,Runs.trans ⟨N1,hr⟩ h4,h5,h6⟩
end
section
variable {N:Blocks} {kv:List ae} {cs eT:List aU} {Z:aU->ag->Prop} {b:aU} {k:List Item} {ops:Array Oper} {n tn:Nat} {x0:Nat->ae} {val:Nat->ae} {J:Bool->ag->Prop}
theorem qrt {listed:Array Bool} {fuel t:Nat} (h:ah .any ops listed≠[]):∃i t',i∈ah .any ops listed/\am .any ops (fuel+1) t listed []=i::am .any ops fuel t' (listed.setIfInBounds i true) []:=by
 have hlen:0<(ah .any ops listed).length:=List.length_pos_iff.2 h;have dY:=Nat.mod_lt t hlen;refine⟨(ah .any ops listed)[t%(ah .any ops listed).length],t/(ah .any ops listed).length,List.getElem_mem _,?_⟩;simp only[am];change (match(ah .any ops listed)[t%(ah .any ops listed).length]? with
   |some i=>am .any ops fuel (t/(ah .any ops listed).length) (listed.setIfInBounds i true) [i]
   |none=>[].reverse)=_
 rw[aM dY];simp only;rw[linearise_go_acc];rfl
theorem ZK {listed:Array Bool} {t:Nat} (hr:ah .any ops listed=[]):∀{fuel:Nat},am .any ops fuel t listed []=[]
 |0=>rfl
 |fuel+1=>by
  simp only[am];change (match(ah .any ops listed)[t%(ah .any ops listed).length]? with
    |some i=>am .any ops fuel (t/(ah .any ops listed).length) (listed.setIfInBounds i true) [i]
    |none=>[].reverse)=_
  rw[hr];rfl
theorem ql.det {id:Nat} (hm:XG.P.follows .mixedOrders=true) (hn:qE ops n tn=true) (hw:J false w)
  (step:∀(j:Nat) o d x td w,ops[j]?=some o->o.dst=some d->(∀s,(∀(j:Nat) o,ops[j]?=some o->o.dst≠some s)->x s=x0 s)->(∀(i:Nat) p e,ops[i]?=some p->p.dst=some e->(∃ed∈o.after,ed.on=i/\Region.binds .any ed=true)->x e=val i)->J (decide (tn<j)) w->
   (∀w',J (decide (tn<=j)) w'->ql N kv cs (b.at ⟨lay n (upd x d (val j)),[]⟩ (.inRegion ops td::k)) w' eT Z)->ql N kv cs (b.at ⟨lay n x,[]⟩ (.inRegion ops (j::td)::k)) w eT Z)
  (done:∀x w,(∀s,(∀(j:Nat) o,ops[j]?=some o->o.dst≠some s)->x s=x0 s)->(∀(j:Nat) o d,ops[j]?=some o->o.dst=some d->x d=val j)->J (decide (tn<ops.size)) w->ql N kv cs (b.at ⟨lay n x,[]⟩ k) w eT Z):
  ql N kv cs (b.at ⟨lay n x0,[]⟩ (.code (.region id ops true)::k)) w eT Z:=by
 refine ql.draw λtt=>?_;have e:Region.schedule (XG.P.follows .mixedOrders) ops tt=am .any ops ops.size tt (az ops.size false) []:=by
  unfold Region.schedule;rw[hm];rfl
 rw[e];have CO:∀{listed:Array Bool},listed.size=ops.size->ah .any ops listed=[]->∀j,j<ops.size->listed.getD j false=true:=by
  intro listed hs mq j;induction j using Nat.strongRecOn with
  |_ j ih=>
   intro hj;cases hv:listed.getD j false with
   |true=>rfl
   |false=>
    exfalso;obtain⟨o,ho⟩:∃o,ops[j]?=some o:=⟨_,bi hj⟩
    have dY:j<listed.size:=by omega
    have:j∈ah .any ops listed:=bO.2 ⟨by simp[dY]at hv⊢;exact hv,o,ho,λe he sH=>by
     have:=(F9 hn ho).2.1 e he sH
     exact ih e.on this (by omega)⟩
    rw[mq]at this;cases this
 have wait:∀{listed:Array Bool},yI ops listed->∀m,listed.getD m false=true->∀i,(waits ops m ((bg ops.size).map λi=>i==m) ops.size).getD i false=true->listed.getD i false=true:=λ{listed} iM m hT i hi=>
  FZ ops m iM ops.size ((bg ops.size).map λi=>i==m) (λi hi=>by
   rw[List.getD_eq_getElem?_getD,List.getElem?_map]at hi;by_cases qG:i<ops.size
   ·rw[List.getElem?_range qG]at hi;simp only[Option.map_some,bE,beq_iff_eq]at hi;rw[hi];exact hT
   ·rw[List.getElem?_eq_none (by simp;omega)]at hi
    cases hi) i hi
 have ht:ops.size<=tn\/((∀i,i<tn->(waits ops tn ((bg ops.size).map λi=>i==tn) ops.size).getD i false=true)/\∀j,j<ops.size->tn<j->(waits ops j ((bg ops.size).map λi=>i==j) ops.size).getD tn false=true):=by
  unfold qE at hn;rw[bo,bH]at hn;rcases hn.2 with h|h
  ·exact .inl (of_decide_eq_true h)
  ·rw[bo,bF,bF]at h;refine .inr ⟨λi hi=>h.1 i (bK.2 hi),λj hj dY=>?_⟩;have:=h.2 j (bK.2 hj);rw[bH]at this;rcases this with h2|h2
   ·have:=of_decide_eq_true h2;omega
   ·exact h2
 have main:∀fuel tt listed a w,left ops.size listed<=fuel->RD ops n tn x0 val J listed a w->ql N kv cs (b.at a (.inRegion ops (am .any ops fuel tt listed [])::k)) w eT Z:=by
  intro fuel;have fin:∀listed a w,RD ops n tn x0 val J listed a w->ah .any ops listed=[]->ql N kv cs (b.at a (.inRegion ops []::k)) w eT Z:=by
   rintro listed a w ⟨h1,h2,h3,x,rfl,h4,h5⟩ mq;have all:=CO h1 mq;refine ql.regionEnd (done x w h4 (λj o d ho hd=>h5 j o d (all j (yx ho).1) ho hd) ?_);by_cases e:tn<ops.size
   ·rw[xdt e];rw[all tn e]at h3;exact h3
   ·rw[zu e];have:listed.getD tn false=false:=by
     rw[av,ac (by omega)];rfl
    rw[this]at h3;exact h3
  induction fuel with
  |zero=>
   intro tt listed a w hl hv;have mq:ah .any ops listed=[]:=by
    cases hq:ah .any ops listed with
    |nil=>rfl
    |cons j r=>
     exfalso;have hj:j∈ah .any ops listed:=by rw[hq];exact .head _
     obtain⟨h1,o,ho,_⟩:=bO.1 hj;have:=Jh (yx ho).1 h1;omega
   exact fin listed a w hv mq
  |succ fuel ih=>
   intro tt listed a w hl hv;by_cases mq:ah .any ops listed=[]
   ·rw[ZK mq];exact fin listed a w hv mq
   obtain⟨j,t',hj,hgo⟩:=qrt (fuel:=fuel) (t:=tt) mq;rw[hgo];obtain⟨h1,o,ho,h3⟩:=bO.1 hj;obtain⟨⟨d,hd,rA⟩,qo,Bt,oJ⟩:=F9 hn ho;obtain⟨eU,iM,hJ,x,rfl,hx,mY⟩:=hv;have vV:j<ops.size:=(yx ho).1;have jO:j<listed.size:=by omega
   have Dl:listed.getD j true=false:=by simpa[jO]using h1
   have Bq:listed.getD j false=false:=by simp[jO]at Dl⊢;exact Dl
   have Ca:(listed.setIfInBounds j true).getD j false=true:=by simp[jO]
   have oH:yI ops (listed.setIfInBounds j true):=by
    intro i p hp hi e he sH;by_cases e1:i=j
    ·subst e1;rw[ho]at hp;cases hp;have dY:=qo e he sH;rw[aY false (by omega)];exact h3 e he sH
    ·rw[aY false (Ne.symm e1)]at hi;have h4:=iM i p hp hi e he sH;by_cases e2:e.on=j
     ·rw[e2];exact Ca
     ·rw[aY false (Ne.symm e2)];exact h4
   have JZ:left ops.size (listed.setIfInBounds j true)<=fuel:=by have:=Ga vV eU h1;omega
   have now:listed.getD tn false=decide (tn<j):=by
    rcases ht with h|⟨hA,hB⟩
    ·rw[zu (by omega),av,ac (by omega)];rfl
    ·rcases Nat.lt_trichotomy j tn with h|h|h
     ·rw[zu (by omega)];cases hv:listed.getD tn false with
      |false=>rfl
      |true=>
       have:=wait iM tn hv j (hA j h);rw[Bq]at this;cases this
     ·subst h;rw[Bq,zu (by omega)]
     ·rw[xdt h];have:=wait oH j Ca tn (hB j vV h);rwa [aY false (by omega)]at this
   have behind:(listed.setIfInBounds j true).getD tn false=decide (tn<=j):=by
    by_cases e:tn=j
    ·subst e;rw[Ca,xdt (ji _)]
    ·rw[aY false (Ne.symm e),now];by_cases h:tn<j
     ·rw[xdt h,xdt (by omega)]
     ·rw[zu h,zu (by omega)]
   rw[now]at hJ;refine step j o d x _ w ho hd hx (λi p e hp he ⟨ed,Dt,h5,h6⟩=>mY i p e (by rw[<-h5];exact h3 ed Dt h6) hp he) hJ λw' Hz=>?_;refine ih t' _ _ _ JZ ⟨by simpa using eU,oH,by rw[behind];exact Hz,_,rfl,λs hs=>?_,λi p e hi hp he=>?_⟩
   ·unfold upd;rw[if_neg λe=>hs j o ho (by rw[hd,e])];exact hx s hs
   ·by_cases e1:i=j
    ·subst e1;rw[ho]at hp;cases hp;rw[hd]at he;cases he;unfold upd;rw[if_pos rfl]
    ·have eB:e≠d:=λe2=>oJ i p hp e1 (by rw[he,hd,e2]);unfold upd;rw[if_neg eB];rw[aY false (Ne.symm e1)]at hi;exact mY i p e hi hp he
 have e0:∀i,(az ops.size false).getD i false=false:=λi=>by
  by_cases h:i<ops.size<;>simp[h]
 refine main _ tt _ _ _ (xlt (List.countP_le_length) (by simp)) ⟨by simp,λj o ho hj=>?_,?_,x0,rfl,λs _=>rfl,λj o d hj ho hd=>?_⟩
 ·rw[e0]at hj;cases hj
 ·rw[e0];exact hw
 ·rw[e0]at hj;cases hj
end
noncomputable def mB:Code:=(Tryz.f20.body).getD .skip
noncomputable def mM0:Code:=cBk (cS (cF (cS (cS mB))))
noncomputable def mC0:Code:=cT (cS mM0)
noncomputable def mM3:Code:=cE (cS mM0)
noncomputable def mM4:Code:=cE (cS mM3)
noncomputable def mM5:Code:=cE (cS mM4)
noncomputable def mC5:Code:=cT (cS mM5)
noncomputable def mM6:Code:=cE (cS mM5)
noncomputable def mC6:Code:=cT (cS mM6)
noncomputable def mM9:Code:=cE (cS mM6)
noncomputable def mC9:Code:=cS (cT (cS mM9))
noncomputable def mMD:Code:=cE (cS mM9)
noncomputable def Gv:Code:=cE (cS mMD)
section
variable {e:aP->ae} {o:Oper} {p q r:aP} {w:ag}
theorem Mk (n:Nat) (h:n<256) (V:ag):(convert 5 3 (.int .u8 n)).run prog V=.ok (.int .i64 n) V:=by
 have h1:=underlying5;have h2:=underlying3;have e1:IntKind.i64.wrap (n:Int)=(n:Int):=by
  simp[IntKind.wrap,IntKind.bits,IntKind.signed];omega
 unfold convert;simp[go_sem,h1,h2,e1]
theorem q4e {x c:Nat} (h:o.op=.binOp .rem 3 p (.const (.int .i64 c)) 3) (hp:e p=.int .i64 x) (hk:e (.const (.int .i64 c))=.int .i64 c) (hc:0<c):(aq e o).run prog w=.ok (.value (.int .i64 ((x%c:Nat):Int))) w:=by
 have hu:=underlying3;have pI:¬c=0:=by omega
 have e2:(x:Int).tmod (c:Int)=((x%c:Nat):Int):=by
  rw[Int.tmod_eq_emod_of_nonneg (Int.natCast_nonneg x),Int.natCast_emod]
 unfold aq;simp[go_sem,h,hp,hk,hu,pI,e2]
theorem RG {sa:Option Addr} {L cp:Nat} (h:o.op=.call {callee:=.builtin .len,args:=#[p],argTypes:=#[49]}) (hp:e p=.slice sa L cp):(aq e o).run prog w=.ok (.value (.int .i64 L)) w:=by
 have hu:=underlying49;unfold aq;simp[go_sem,h,hp,Builtin.len_,hu]
theorem RF {x y:Nat} (h:o.op=.binOp .sub 3 p q 3) (hp:e p=.int .i64 x) (hq:e q=.int .i64 y) (hy:y<=x) (hx:x<4611686018427387904):(aq e o).run prog w=.ok (.value (.int .i64 ((x-y:Nat):Int))) w:=by
 have hu:=underlying3;have e1:IntKind.i64.wrap ((x:Int)-(y:Int))=((x-y:Nat):Int):=by
  simp[IntKind.wrap,IntKind.bits,IntKind.signed];omega
 unfold aq;simp[go_sem,h,hp,hq,hu,e1]
theorem q4d {L:Nat} (h:o.op=.call {callee:=.builtin .min,args:=#[p,.const (.int .i64 4)],argTypes:=#[3,3]}) (hp:e p=.int .i64 L) (hq:e (.const (.int .i64 4))=.int .i64 4):(aq e o).run prog w=.ok (.value (.int .i64 ((min L 4:Nat):Int))) w:=by
 have hu:=underlying3;unfold aq;simp[go_sem,h,hp,hq,hu];omega
end
theorem y9.drew {W:Nat} {s:St} {k:KW} (h:y9 w W s k):y9 w.drew W s k:=h.idle (But.of_below (Below.drewN' (zk _ _) 1))
end
end Ph
end Go.Proofs.YtkpekiajdlolnabGreat
